import PyProof.Rows.All
import Wide.All
import OpenK.AllK
import Wide.FinOn
import KE.KStateDown
import Lean
import HandS.Base
import HandS.Call
import HandS.Ends
import HandS.More
import HandS.Words
import HandS.WordsExc
import HandS.Defaults
import HandS.Head0
import HandS.Head1
import HandS.Head2
import HandS.HeadEnd
import HandS.HeadHook1
import HandS.HeadHook2
import HandS.HeadHook4
import HandS.ForMost
import HandS.TupAny
import HandS.IsInst
import HandS.Walk
import HandS.Zip
import HandS.Conv
import HandS.Style
import HandS.DictComp
import HandS.SortInts
import KE.GoesMore
import HandS.ExcInit
import HandS.ExcField
import HandS.ExcOwn
import PySem.Challenge.RW_rootfirst_k76_whole_commands_of_gardens
set_option Elab.async false
set_option linter.all false
section
set_option maxRecDepth 100000
/-! K76, part a: data, what stands for it in the abstract heap, slots, worlds, judgements. -/
namespace K7
open PySem L2

/-- keys of a dict: ints, each to True -/
def dkv (ks : List Int) : List (Key × V) := ks.map fun k => (Sum.inl k, V.bl true)
/-- data: what a value stands for -/
inductive D where
  | non | bl (b : Bool) | int (i : Int) | str (x : Str) | tup (xs : List D) | lst (xs : List D) | dic (ks : List Int) | h (a : Addr)

mutual
/-- v stands for the datum, by objects of H outside M -/
def Rep (M : Addr → Prop) (H : Hp) : D → V → Prop
  | .non, v => v = .non
  | .bl b, v => v = .bl b
  | .int i, v => v = .int i
  | .str x, v => v = .str x
  | .h a, v => v = .ref a
  | .tup ds, v => ∃ a vs, v = .ref a ∧ ¬ M a ∧ H a = some (.tup vs) ∧ RepL M H ds vs
  | .lst ds, v => ∃ a vs, v = .ref a ∧ ¬ M a ∧ H a = some (.lst vs) ∧ RepL M H ds vs
  | .dic ks, v => ∃ a, v = .ref a ∧ ¬ M a ∧ H a = some (.dK (dkv ks))
def RepL (M : Addr → Prop) (H : Hp) : List D → List V → Prop
  | [], vs => vs = []
  | d :: ds, vs => ∃ v r, vs = v :: r ∧ Rep M H d v ∧ RepL M H ds r
end

section
variable {M M' : Addr → Prop} {H H' : Hp}
mutual
theorem Rep.step (g : ∀ a o, ¬ M a → H a = some o → H' a = some o) (m : ∀ a, M' a → M a ∨ H a = none) : ∀ {d : D} {v : V}, Rep M H d v → Rep M' H' d v
  | .non, _, r => by simp only [Rep] at r ⊢; exact r
  | .bl _, _, r => by simp only [Rep] at r ⊢; exact r
  | .int _, _, r => by simp only [Rep] at r ⊢; exact r
  | .str _, _, r => by simp only [Rep] at r ⊢; exact r
  | .h _, _, r => by simp only [Rep] at r ⊢; exact r
  | .tup ds, v, r => by
    simp only [Rep] at r ⊢
    obtain ⟨a, vs, e, n, h, l⟩ := r
    exact ⟨a, vs, e, fun z => (m a z).elim n fun y => (by rw [h] at y; cases y), g a _ n h, RepL.step g m l⟩
  | .lst ds, v, r => by
    simp only [Rep] at r ⊢
    obtain ⟨a, vs, e, n, h, l⟩ := r
    exact ⟨a, vs, e, fun z => (m a z).elim n fun y => (by rw [h] at y; cases y), g a _ n h, RepL.step g m l⟩
  | .dic ks, v, r => by
    simp only [Rep] at r ⊢
    obtain ⟨a, e, n, h⟩ := r
    exact ⟨a, e, fun z => (m a z).elim n fun y => (by rw [h] at y; cases y), g a _ n h⟩
theorem RepL.step (g : ∀ a o, ¬ M a → H a = some o → H' a = some o) (m : ∀ a, M' a → M a ∨ H a = none) : ∀ {ds : List D} {vs : List V}, RepL M H ds vs → RepL M' H' ds vs
  | [], _, r => by simp only [RepL] at r ⊢; exact r
  | d :: ds, _, r => by
    simp only [RepL] at r ⊢
    obtain ⟨v, r', e, h1, h2⟩ := r
    exact ⟨v, r', e, Rep.step g m h1, RepL.step g m h2⟩
end
theorem Rep.grow (g : ∀ a o, ¬ M a → H a = some o → H' a = some o) {d : D} {v : V} (r : Rep M H d v) : Rep M H' d v := r.step g fun _ z => .inl z
theorem RepL.grow (g : ∀ a o, ¬ M a → H a = some o → H' a = some o) {d : List D} {v : List V} (r : RepL M H d v) : RepL M H' d v := r.step g fun _ z => .inl z
theorem Rep.more (m : ∀ a, M' a → M a ∨ H a = none) {d : D} {v : V} (r : Rep M H d v) : Rep M' H d v := r.step (fun _ _ _ e => e) m
theorem RepL.more (m : ∀ a, M' a → M a ∨ H a = none) {d : List D} {v : List V} (r : RepL M H d v) : RepL M' H d v := r.step (fun _ _ _ e => e) m
theorem RepL.length : ∀ {ds : List D} {vs : List V}, RepL M H ds vs → vs.length = ds.length
  | [], _, r => by simp only [RepL] at r; rw [r]; rfl
  | d :: ds, _, r => by
    simp only [RepL] at r
    obtain ⟨v, r', e, _, h2⟩ := r
    rw [e, List.length_cons, List.length_cons, RepL.length h2]
theorem RepL.nil : RepL M H [] [] := by simp only [RepL]
theorem RepL.cons {d : D} {v : V} {ds : List D} {vs : List V} (h : Rep M H d v) (t : RepL M H ds vs) : RepL M H (d :: ds) (v :: vs) := by
  simp only [RepL]
  exact ⟨v, vs, rfl, h, t⟩
theorem RepL.inv {d : D} {ds : List D} {vs : List V} (t : RepL M H (d :: ds) vs) : ∃ v r, vs = v :: r ∧ Rep M H d v ∧ RepL M H ds r := by
  simpa only [RepL] using t
theorem RepL.inv0 {vs : List V} (t : RepL M H [] vs) : vs = [] := by
  simpa only [RepL] using t
theorem RepL.append : ∀ {ds es : List D} {vs us : List V}, RepL M H ds vs → RepL M H es us → RepL M H (ds ++ es) (vs ++ us)
  | [], _, _, _, r, s => by rw [r.inv0]; exact s
  | d :: ds, _, _, _, r, s => by
    obtain ⟨v, r', e, h1, h2⟩ := r.inv
    rw [e]
    exact .cons h1 (RepL.append h2 s)
theorem RepL.take : ∀ {ds : List D} {vs : List V} (n : Nat), RepL M H ds vs → RepL M H (ds.take n) (vs.take n)
  | _, _, 0, _ => by simp only [List.take_zero]; exact .nil
  | [], _, n + 1, r => by rw [r.inv0]; exact .nil
  | d :: ds, _, n + 1, r => by
    obtain ⟨v, r', e, h1, h2⟩ := r.inv
    rw [e]
    exact .cons h1 (RepL.take n h2)
theorem RepL.drop : ∀ {ds : List D} {vs : List V} (n : Nat), RepL M H ds vs → RepL M H (ds.drop n) (vs.drop n)
  | _, _, 0, r => r
  | [], _, n + 1, r => by rw [r.inv0]; exact .nil
  | d :: ds, _, n + 1, r => by
    obtain ⟨v, r', e, h1, h2⟩ := r.inv
    rw [e]
    exact RepL.drop n h2
theorem RepL.get : ∀ {ds : List D} {vs : List V} {i : Nat} {d : D}, RepL M H ds vs → ds[i]? = some d → ∃ v, vs[i]? = some v ∧ Rep M H d v
  | [], _, _, _, _, e => by simp at e
  | d :: ds, _, 0, _, r, e => by
    obtain ⟨v, r', e', h1, h2⟩ := r.inv
    rw [e']
    simp at e
    rw [← e]
    exact ⟨v, rfl, h1⟩
  | d :: ds, _, i + 1, _, r, e => by
    obtain ⟨v, r', e', h1, h2⟩ := r.inv
    rw [e']
    rw [List.getElem?_cons_succ] at e ⊢
    exact RepL.get h2 e
theorem RepL.getV : ∀ {ds : List D} {vs : List V} {i : Nat} {v : V}, RepL M H ds vs → vs[i]? = some v → ∃ d, ds[i]? = some d ∧ Rep M H d v
  | [], _, _, _, r, e => by rw [r.inv0] at e; simp at e
  | d :: ds, _, 0, _, r, e => by
    obtain ⟨v, r', e', h1, h2⟩ := r.inv
    rw [e'] at e
    simp at e
    rw [← e]
    exact ⟨d, rfl, h1⟩
  | d :: ds, _, i + 1, _, r, e => by
    obtain ⟨v, r', e', h1, h2⟩ := r.inv
    rw [e', List.getElem?_cons_succ] at e
    rw [List.getElem?_cons_succ]
    exact RepL.getV h2 e
theorem RepL.dropLast : ∀ {ds : List D} {vs : List V}, RepL M H ds vs → RepL M H ds.dropLast vs.dropLast := fun {ds vs} r => by
  rw [List.dropLast_eq_take, List.dropLast_eq_take, r.length]
  exact r.take _
theorem RepL.reverse : ∀ {ds : List D} {vs : List V}, RepL M H ds vs → RepL M H ds.reverse vs.reverse
  | [], _, r => by rw [r.inv0]; exact .nil
  | d :: ds, _, r => by
    obtain ⟨v, r', e, h1, h2⟩ := r.inv
    rw [e, List.reverse_cons, List.reverse_cons]
    exact (RepL.reverse h2).append (.cons h1 .nil)
theorem RepL.set : ∀ {ds : List D} {vs : List V} (i : Nat) {d : D} {v : V}, RepL M H ds vs → Rep M H d v → RepL M H (ds.set i d) (vs.set i v)
  | [], _, _, _, _, r, _ => by rw [r.inv0]; exact .nil
  | _ :: ds, _, 0, _, _, r, q => by
    obtain ⟨v, r', e, h1, h2⟩ := r.inv
    rw [e]
    exact .cons q h2
  | _ :: ds, _, i + 1, _, _, r, q => by
    obtain ⟨v, r', e, h1, h2⟩ := r.inv
    rw [e]
    exact .cons h1 (RepL.set i h2 q)
theorem RepL.ints : ∀ {ns : List Int} {vs : List V}, RepL M H (ns.map D.int) vs → vs = ns.map V.int
  | [], _, r => r.inv0
  | n :: ns, _, r => by
    obtain ⟨v, r', e, h1, h2⟩ := RepL.inv (d := D.int n) (ds := ns.map D.int) r
    simp only [Rep] at h1
    rw [e, h1, RepL.ints h2]
    rfl
theorem RepL.ofInts : ∀ {ns : List Int}, RepL M H (ns.map D.int) (ns.map V.int)
  | [] => .nil
  | n :: ns => .cons (by simp only [Rep]) (RepL.ofInts (ns := ns))
theorem RepL.bls : ∀ {ns : List Bool} {vs : List V}, RepL M H (ns.map D.bl) vs → vs = ns.map V.bl
  | [], _, r => r.inv0
  | n :: ns, _, r => by
    obtain ⟨v, r', e, h1, h2⟩ := RepL.inv (d := D.bl n) (ds := ns.map D.bl) r
    simp only [Rep] at h1
    rw [e, h1, RepL.bls h2]
    rfl
end

/-! ### worlds: objects that defs change -/
structure Wd where
  S : Type
  at_ : Addr → Prop
  rel : (Addr → Prop) → S → Hp → Prop
  grow : ∀ M s H H', (∀ a o, (at_ a ∨ ¬ M a) → H a = some o → H' a = some o) → rel M s H → rel M s H'
  more : ∀ M M' s H, (∀ a, M' a → M a ∨ H a = none) → rel M s H → rel M' s H
  trk : ∀ M s H a, rel M s H → at_ a → H a ≠ none
/-- nothing is changed -/
def W0 : Wd := ⟨Unit, fun _ => False, fun _ _ _ => True, fun _ _ _ _ _ _ => trivial, fun _ _ _ _ _ _ => trivial, fun _ _ _ _ _ z => z.elim⟩
/-- all but the world stays -/
def Gr (W : Wd) (H H' : Hp) : Prop := ∀ a o, ¬ W.at_ a → H a = some o → H' a = some o
theorem Gr.refl {W : Wd} {H : Hp} : Gr W H H := fun _ _ _ e => e
theorem Gr.trans {W : Wd} {H H1 H2 : Hp} (a : Gr W H H1) (b : Gr W H1 H2) : Gr W H H2 := fun c o n e => b c o n (a c o n e)
theorem Gr.new {W : Wd} {H : Hp} {p : Addr} {o : HO} (h : H p = none) : Gr W H (upd H p o) := fun a u _ e => by
  rw [upd_ne (ne_of_none e h)]
  exact e

/-! ### slots -/
inductive SV where
  | un | im (d : D) | ow (ds : List D) | od (ks : List Int)
def SV.own : SV → Bool
  | .ow _ => true
  | .od _ => true
  | _ => false
def OwnIx (ρ : List SV) (σ : L2.St) (i : Nat) (a : Addr) : Prop := (∃ x, ρ[i]? = some x ∧ x.own = true) ∧ σ[i]? = some (some (.ref a))
def OwnAt (ρ : List SV) (σ : L2.St) (a : Addr) : Prop := ∃ i, OwnIx ρ σ i a
def SlotR (M : Addr → Prop) (H : Hp) : SV → Option V → Prop
  | .un, _ => True
  | .im d, o => ∃ v, o = some v ∧ Rep M H d v
  | .ow ds, o => ∃ a vs, o = some (.ref a) ∧ H a = some (.lst vs) ∧ RepL M H ds vs
  | .od ks, o => ∃ a, o = some (.ref a) ∧ H a = some (.dK (dkv ks))
/-- what may change: the base's, the world's, the slots' own -/
def MO (Mb : Addr → Prop) (ρ : List SV) (σ : L2.St) : Addr → Prop := fun a => Mb a ∨ OwnAt ρ σ a
structure Rel (W : Wd) (Mb : Addr → Prop) (ρ : List SV) (s : W.S) (σ : L2.St) (H : Hp) : Prop where
  len : σ.length = ρ.length
  sub : ∀ a, W.at_ a → Mb a
  trk : ∀ a, Mb a → H a ≠ none
  ofr : ∀ a, OwnAt ρ σ a → ¬ Mb a
  inj : ∀ (i j : Nat) (a : Addr), OwnIx ρ σ i a → OwnIx ρ σ j a → i = j
  slot : ∀ (i : Nat) (x : SV) (o : Option V), ρ[i]? = some x → σ[i]? = some o → SlotR (MO Mb ρ σ) H x o
  world : W.rel (MO Mb ρ σ) s H
section
variable {W : Wd} {Mb : Addr → Prop} {ρ : List SV} {s s' : W.S} {σ : L2.St} {H H' : Hp}
theorem Rel.watM (R : Rel W Mb ρ s σ H) : ∀ a, W.at_ a → MO Mb ρ σ a := fun a z => .inl (R.sub a z)
theorem Rel.ownT (R : Rel W Mb ρ s σ H) {a : Addr} (h : OwnAt ρ σ a) : H a ≠ none := by
  obtain ⟨i, ⟨x, hx, ho⟩, hs⟩ := h
  have q := R.slot i x _ hx hs
  cases x with
  | un => cases ho
  | im d => cases ho
  | ow ds =>
    obtain ⟨b, vs, e, h, _⟩ := q
    cases e
    rw [h]
    intro z
    cases z
  | od ks =>
    obtain ⟨b, e, h⟩ := q
    cases e
    rw [h]
    intro z
    cases z
theorem Rel.moT (R : Rel W Mb ρ s σ H) {a : Addr} (h : MO Mb ρ σ a) : H a ≠ none := h.elim (R.trk a) R.ownT
theorem Rel.ownW (R : Rel W Mb ρ s σ H) {a : Addr} (h : OwnAt ρ σ a) : ¬ W.at_ a := fun z => R.ofr a h (R.sub a z)
theorem gr_mo {M : Addr → Prop} (hw : ∀ a, W.at_ a → M a) (g : Gr W H H') : ∀ a o, ¬ M a → H a = some o → H' a = some o := fun a o n e => g a o (fun z => n (hw a z)) e
theorem SlotR.gr {M : Addr → Prop} {x : SV} {o : Option V} (hw : ∀ a, W.at_ a → M a) (ow : ∀ a, x.own = true → o = some (.ref a) → ¬ W.at_ a) (g : Gr W H H') (q : SlotR M H x o) : SlotR M H' x o := by
  cases x with
  | un => exact True.intro
  | im d =>
    obtain ⟨v, e, r⟩ := q
    exact ⟨v, e, r.grow (gr_mo hw g)⟩
  | ow ds =>
    obtain ⟨a, vs, e, h, r⟩ := q
    exact ⟨a, vs, e, g a _ (ow a rfl e) h, r.grow (gr_mo hw g)⟩
  | od ks =>
    obtain ⟨a, e, h⟩ := q
    exact ⟨a, e, g a _ (ow a rfl e) h⟩
/-- behind an expression -/
theorem Rel.gr (R : Rel W Mb ρ s σ H) (g : Gr W H H') (hw : W.rel (MO Mb ρ σ) s' H') : Rel W Mb ρ s' σ H' where
  len := R.len
  sub := R.sub
  trk := fun a m => by
    by_cases z : W.at_ a
    · exact W.trk _ _ _ a hw z
    · cases q : H a with
      | none => exact absurd q (R.trk a m)
      | some o =>
        rw [g a o z q]
        intro y
        cases y
  ofr := R.ofr
  inj := R.inj
  slot := fun i x o hx hs => (R.slot i x o hx hs).gr R.watM (fun a ho e => R.ownW ⟨i, ⟨x, hx, ho⟩, by rw [hs, e]⟩) g
  world := hw
end
abbrev EF (S : Type) := List SV → S → Option (D × S)
abbrev TF (S : Type) := List SV → S → Option (Bool × S)
abbrev AF (S : Type) := List SV → S → Option (List D × S)
/-- a value that is read at once: at its top it may be a slot's own list -/
def RepW (W : Wd) (M : Addr → Prop) (H : Hp) (d : D) (v : V) : Prop := match d with
  | .lst ds => ∃ a vs, v = .ref a ∧ ¬ W.at_ a ∧ H a = some (.lst vs) ∧ RepL M H ds vs
  | .dic ks => ∃ a, v = .ref a ∧ ¬ W.at_ a ∧ H a = some (.dK (dkv ks))
  | d => Rep M H d v
theorem RepW.of {W : Wd} {M : Addr → Prop} {H : Hp} {d : D} {v : V} (hw : ∀ a, W.at_ a → M a) (r : Rep M H d v) : RepW W M H d v := by
  cases d with
  | lst ds =>
    simp only [Rep] at r
    obtain ⟨a, vs, e, n, h, l⟩ := r
    exact ⟨a, vs, e, fun z => n (hw a z), h, l⟩
  | dic ks =>
    simp only [Rep] at r
    obtain ⟨a, e, n, h⟩ := r
    exact ⟨a, e, fun z => n (hw a z), h⟩
  | _ => exact r
theorem RepW.gr {W : Wd} {M : Addr → Prop} {H H' : Hp} {d : D} {v : V} (hw : ∀ a, W.at_ a → M a) (g : Gr W H H') (r : RepW W M H d v) : RepW W M H' d v := by
  cases d with
  | lst ds =>
    obtain ⟨a, vs, e, n, h, l⟩ := r
    exact ⟨a, vs, e, n, g a _ n h, l.grow (gr_mo hw g)⟩
  | dic ks =>
    obtain ⟨a, e, n, h⟩ := r
    exact ⟨a, e, n, g a _ n h⟩
  | _ => exact Rep.grow (gr_mo hw g) r
/-- t's reading follows from f -/
def DE (W : Wd) (t : TE) (f : EF W.S) : Prop := ∀ (Mb : Addr → Prop) (ρ : List SV) (s : W.S) (σ : L2.St) (H : Hp) (d : D) (s' : W.S), Rel W Mb ρ s σ H → f ρ s = some (d, s') →
  ∀ Q : VK, (∀ v H', Gr W H H' → W.rel (MO Mb ρ σ) s' H' → Rep (MO Mb ρ σ) H' d v → Q v H') → t σ H Q
def DW (W : Wd) (t : TE) (f : EF W.S) : Prop := ∀ (Mb : Addr → Prop) (ρ : List SV) (s : W.S) (σ : L2.St) (H : Hp) (d : D) (s' : W.S), Rel W Mb ρ s σ H → f ρ s = some (d, s') →
  ∀ Q : VK, (∀ v H', Gr W H H' → W.rel (MO Mb ρ σ) s' H' → RepW W (MO Mb ρ σ) H' d v → Q v H') → t σ H Q
def DT (W : Wd) (t : TT) (f : TF W.S) : Prop := ∀ (Mb : Addr → Prop) (ρ : List SV) (s : W.S) (σ : L2.St) (H : Hp) (b : Bool) (s' : W.S), Rel W Mb ρ s σ H → f ρ s = some (b, s') →
  ∀ Q : Bool → Hp → Prop, (∀ H', Gr W H H' → W.rel (MO Mb ρ σ) s' H' → Q b H') → t σ H Q
def DA (W : Wd) (t : TA) (f : AF W.S) : Prop := ∀ (Mb : Addr → Prop) (ρ : List SV) (s : W.S) (σ : L2.St) (H : Hp) (ds : List D) (s' : W.S), Rel W Mb ρ s σ H → f ρ s = some (ds, s') →
  ∀ Q : List V → Hp → Prop, (∀ vs H', Gr W H H' → W.rel (MO Mb ρ σ) s' H' → RepL (MO Mb ρ σ) H' ds vs → Q vs H') → t σ H Q
theorem DE.w {W : Wd} {t : TE} {f : EF W.S} (h : DE W t f) : DW W t f := fun Mb ρ s σ H d s' R e Q q => h Mb ρ s σ H d s' R e Q fun v H' g w r => q v H' g w (.of R.watM r)
/-- the readings that the functions stand for -/
def tOf (W : Wd) (f : EF W.S) : TE := fun σ H Q => ∃ (Mb : Addr → Prop) (ρ : List SV) (s : W.S) (d : D) (s' : W.S), Rel W Mb ρ s σ H ∧ f ρ s = some (d, s') ∧ ∀ v H', Gr W H H' → W.rel (MO Mb ρ σ) s' H' → Rep (MO Mb ρ σ) H' d v → Q v H'
def tOfW (W : Wd) (f : EF W.S) : TE := fun σ H Q => ∃ (Mb : Addr → Prop) (ρ : List SV) (s : W.S) (d : D) (s' : W.S), Rel W Mb ρ s σ H ∧ f ρ s = some (d, s') ∧ ∀ v H', Gr W H H' → W.rel (MO Mb ρ σ) s' H' → RepW W (MO Mb ρ σ) H' d v → Q v H'
def tOfT (W : Wd) (f : TF W.S) : TT := fun σ H Q => ∃ (Mb : Addr → Prop) (ρ : List SV) (s : W.S) (b : Bool) (s' : W.S), Rel W Mb ρ s σ H ∧ f ρ s = some (b, s') ∧ ∀ H', Gr W H H' → W.rel (MO Mb ρ σ) s' H' → Q b H'
def tOfA (W : Wd) (f : AF W.S) : TA := fun σ H Q => ∃ (Mb : Addr → Prop) (ρ : List SV) (s : W.S) (ds : List D) (s' : W.S), Rel W Mb ρ s σ H ∧ f ρ s = some (ds, s') ∧ ∀ vs H', Gr W H H' → W.rel (MO Mb ρ σ) s' H' → RepL (MO Mb ρ σ) H' ds vs → Q vs H'
inductive XE (W : Wd) (X : Cx) (e : Expr) (f : EF W.S) : Prop where
  | mk {t : TE} (p : PE X e t) (d : DE W t f) : XE W X e f
inductive XW (W : Wd) (X : Cx) (e : Expr) (f : EF W.S) : Prop where
  | mk {t : TE} (p : PE X e t) (d : DW W t f) : XW W X e f
inductive XT (W : Wd) (X : Cx) (e : Expr) (f : TF W.S) : Prop where
  | mk {t : TT} (p : PT X e t) (d : DT W t f) : XT W X e f
inductive XA (W : Wd) (X : Cx) (es : List Expr) (f : AF W.S) : Prop where
  | mk {t : TA} (p : PA X es t) (d : DA W t f) : XA W X es f
section
variable {W : Wd} {X : Cx} {e : Expr} {es : List Expr} {fe : EF W.S} {ft : TF W.S} {fa : AF W.S}
theorem XE.p (h : XE W X e fe) : PE X e (tOf W fe) := by
  obtain ⟨p, d⟩ := h
  exact ⟨fun pins s σ H Q I ⟨Mb, ρ, s0, x, s', R, e, q⟩ => p.run pins s σ H Q I (d Mb ρ s0 σ H x s' R e Q q)⟩
theorem XE.d (_ : XE W X e fe) : DE W (tOf W fe) fe := fun Mb ρ s σ H x s' R e Q q => ⟨Mb, ρ, s, x, s', R, e, q⟩
theorem XW.p (h : XW W X e fe) : PE X e (tOfW W fe) := by
  obtain ⟨p, d⟩ := h
  exact ⟨fun pins s σ H Q I ⟨Mb, ρ, s0, x, s', R, e, q⟩ => p.run pins s σ H Q I (d Mb ρ s0 σ H x s' R e Q q)⟩
theorem XW.d (_ : XW W X e fe) : DW W (tOfW W fe) fe := fun Mb ρ s σ H x s' R e Q q => ⟨Mb, ρ, s, x, s', R, e, q⟩
theorem XT.p (h : XT W X e ft) : PT X e (tOfT W ft) := by
  obtain ⟨p, d⟩ := h
  exact ⟨fun pins s σ H Q I ⟨Mb, ρ, s0, x, s', R, e, q⟩ => p.run pins s σ H Q I (d Mb ρ s0 σ H x s' R e Q q)⟩
theorem XT.d (_ : XT W X e ft) : DT W (tOfT W ft) ft := fun Mb ρ s σ H x s' R e Q q => ⟨Mb, ρ, s, x, s', R, e, q⟩
theorem XA.p (h : XA W X es fa) : PA X es (tOfA W fa) := by
  obtain ⟨p, d⟩ := h
  exact ⟨fun pos pins s σ H Q I ⟨Mb, ρ, s0, x, s', R, e, q⟩ => p.run pos pins s σ H Q I (d Mb ρ s0 σ H x s' R e Q q)⟩
theorem XA.d (_ : XA W X es fa) : DA W (tOfA W fa) fa := fun Mb ρ s σ H x s' R e Q q => ⟨Mb, ρ, s, x, s', R, e, q⟩
theorem XE.w (h : XE W X e fe) : XW W X e fe := ⟨h.p, h.d.w⟩
end
end K7
end
section
set_option maxRecDepth 100000
/-! K76, part b: operations on data, the rules for expressions. -/
namespace K7
open PySem L2

def LIM : Nat := 100000
theorem lim_ok {n : Nat} (h : n ≤ LIM) : n ≤ sizeLine := Nat.le_trans h (by decide)
theorem lim_lt {n : Nat} (h : n ≤ LIM) : n < sizeLine := Nat.lt_of_le_of_lt h (by decide)
def Exh (H H' : Hp) : Prop := ∀ a o, H a = some o → H' a = some o
theorem Exh.refl {H : Hp} : Exh H H := fun _ _ e => e
theorem Exh.new {H : Hp} {p : Addr} {o : HO} (h : H p = none) : Exh H (upd H p o) := fun a u e => by
  rw [upd_ne (ne_of_none e h)]
  exact e
theorem Exh.gr {W : Wd} {H H' : Hp} (e : Exh H H') : Gr W H H' := fun a o _ q => e a o q
theorem Exh.trans {H H1 H2 : Hp} (a : Exh H H1) (b : Exh H1 H2) : Exh H H2 := fun x o h => b x o (a x o h)
theorem Rep.ex {M : Addr → Prop} {H H' : Hp} {d : D} {v : V} (r : Rep M H d v) (e : Exh H H') : Rep M H' d v := r.grow fun a o _ q => e a o q
theorem RepL.ex {M : Addr → Prop} {H H' : Hp} {d : List D} {v : List V} (r : RepL M H d v) (e : Exh H H') : RepL M H' d v := r.grow fun a o _ q => e a o q

/-! ### operations on data -/
def ints? : List D → Option (List Int)
  | [] => some []
  | .int i :: r => (ints? r).map (i :: ·)
  | _ :: _ => none
theorem ints_of : ∀ {ds : List D} {ns : List Int}, ints? ds = some ns → ds = ns.map D.int
  | [], ns, h => by simp [ints?] at h; rw [h]; rfl
  | .int i :: r, ns, h => by
    simp only [ints?, Option.map_eq_some_iff] at h
    obtain ⟨m, e, rfl⟩ := h
    rw [ints_of e]
    rfl
  | .non :: _, _, h => by simp [ints?] at h
  | .bl _ :: _, _, h => by simp [ints?] at h
  | .str _ :: _, _, h => by simp [ints?] at h
  | .tup _ :: _, _, h => by simp [ints?] at h
  | .lst _ :: _, _, h => by simp [ints?] at h
  | .dic _ :: _, _, h => by simp [ints?] at h
  | .h _ :: _, _, h => by simp [ints?] at h
@[simp] theorem ints_map : ∀ (ns : List Int), ints? (ns.map D.int) = some ns
  | [] => rfl
  | n :: r => by simp [ints?, ints_map r]
def bls? : List D → Option (List Bool)
  | [] => some []
  | .bl i :: r => (bls? r).map (i :: ·)
  | _ :: _ => none
theorem bls_of : ∀ {ds : List D} {ns : List Bool}, bls? ds = some ns → ds = ns.map D.bl
  | [], ns, h => by simp [bls?] at h; rw [h]; rfl
  | .bl i :: r, ns, h => by
    simp only [bls?, Option.map_eq_some_iff] at h
    obtain ⟨m, e, rfl⟩ := h
    rw [bls_of e]
    rfl
  | .non :: _, _, h => by simp [bls?] at h
  | .int _ :: _, _, h => by simp [bls?] at h
  | .str _ :: _, _, h => by simp [bls?] at h
  | .tup _ :: _, _, h => by simp [bls?] at h
  | .lst _ :: _, _, h => by simp [bls?] at h
  | .dic _ :: _, _, h => by simp [bls?] at h
  | .h _ :: _, _, h => by simp [bls?] at h
@[simp] theorem bls_map : ∀ (ns : List Bool), bls? (ns.map D.bl) = some ns
  | [] => rfl
  | n :: r => by simp [bls?, bls_map r]

def dAdd : D → D → Option D
  | .int i, .int j => some (.int (i + j))
  | .tup xs, .tup ys => if xs.length + ys.length ≤ LIM then some (.tup (xs ++ ys)) else none
  | .lst xs, .lst ys => if xs.length + ys.length ≤ LIM then some (.lst (xs ++ ys)) else none
  | _, _ => none
def dSub : D → D → Option D
  | .int i, .int j => some (.int (i - j))
  | _, _ => none
def dMul : D → D → Option D
  | .int i, .int j => if (-(2 ^ 64) < i ∧ i < 2 ^ 64) ∨ (-(2 ^ 64) < j ∧ j < 2 ^ 64) then some (.int (i * j)) else none
  | _, _ => none
def dMod : D → D → Option D
  | .int i, .int j => if 0 < j then some (.int (i % j)) else none
  | _, _ => none
def dDiv : D → D → Option D
  | .int i, .int j => if 0 < j ∧ j < 1073741824 then some (.int (i / j)) else none
  | _, _ => none
def dPow : D → D → Option D
  | .int i, .int j => if 0 ≤ j ∧ j ≤ 1000000 ∧ i.natAbs < 2 ^ 64 then some (.int (i ^ j.toNat)) else none
  | _, _ => none
def dCmp (p : Int → Int → Bool) : D → D → Option D
  | .int i, .int j => some (.bl (p i j))
  | _, _ => none
def dLt := dCmp fun i j => decide (i < j)
def dLe := dCmp fun i j => decide (i ≤ j)
def dGt := dCmp fun i j => decide (j < i)
def dGe := dCmp fun i j => decide (j ≤ i)
def dEqB : D → D → Option Bool
  | .int i, .int j => some (decide (i = j))
  | .bl i, .bl j => some (decide (i = j))
  | .str i, .str j => some (decide (i = j))
  | .tup xs, .tup ys => match ints? xs, ints? ys with
    | some ns, some ms => some (decide (ns = ms))
    | _, _ => none
  | _, _ => none
def dEq (x y : D) : Option D := (dEqB x y).map D.bl
def dNe (x y : D) : Option D := (dEqB x y).map fun b => .bl !b
def dIsN : D → D → Option D
  | .non, .non => some (.bl true)
  | .dic _, .non => none
  | _, .non => some (.bl false)
  | _, _ => none
def dIsNot (x y : D) : Option D := match dIsN x y with
  | some (.bl b) => some (.bl !b)
  | _ => none
def seq? : D → Option (List D)
  | .tup xs => some xs
  | .lst xs => some xs
  | _ => none
def dInB (x y : D) : Option Bool := match x, seq? y with
  | .int i, some ys => (ints? ys).map fun ns => decide (i ∈ ns)
  | _, _ => none
def dIn (x y : D) : Option D := (dInB x y).map D.bl
def dNotIn (x y : D) : Option D := (dInB x y).map fun b => .bl !b
def dItem (x y : D) : Option D := match seq? x, y with
  | some xs, .int i => atI xs i
  | _, _ => none
def dCut (xs : List D) (lo hi : Option Int) : List D := (xs.drop (HT.sIx xs.length 0 lo)).take (HT.sIx xs.length xs.length hi - HT.sIx xs.length 0 lo)
def dSlice (x : D) (lo hi : Option Int) : Option D := match x with
  | .tup xs => some (.tup (dCut xs lo hi))
  | _ => none
def dLen : D → Option D
  | .tup xs => some (.int xs.length)
  | .lst xs => some (.int xs.length)
  | .dic ks => some (.int ks.length)
  | _ => none
def dAbs : D → Option D
  | .int i => some (.int (if i < 0 then -i else i))
  | _ => none
def dToInt : D → Option D
  | .int i => some (.int i)
  | .bl b => some (.int (if b then 1 else 0))
  | _ => none
def dMax2 : D → D → Option D
  | .int i, .int j => some (.int (if j > i then j else i))
  | _, _ => none
def dTuple : D → Option D
  | .tup xs => some (.tup xs)
  | .lst xs => some (.tup xs)
  | _ => none
def dList : D → Option D
  | .tup xs => some (.lst xs)
  | .lst xs => some (.lst xs)
  | _ => none
def ins (i : Int) : List Int → List Int
  | [] => [i]
  | j :: r => if i ≤ j then i :: j :: r else j :: ins i r
def isort : List Int → List Int
  | [] => []
  | i :: r => ins i (isort r)
def dSorted : D → Option D
  | .lst xs => (ints? xs).map fun ns => .lst ((isort ns).map D.int)
  | .dic ks => if ks.length < 64 then some (.lst ((isort ks).map D.int)) else none
  | _ => none
def dSum : D → Option D
  | .lst xs => (ints? xs).map fun ns => .int ns.sum
  | _ => none
def dAny : D → Option D
  | .lst xs => (bls? xs).map fun bs => .bl (bs.any id)
  | _ => none
def dAll : D → Option D
  | .lst xs => (bls? xs).map fun bs => .bl (bs.all id)
  | _ => none
def dTy : D → Option String
  | .non => some "NoneType"
  | .bl _ => some "bool"
  | .int _ => some "int"
  | .str _ => some "str"
  | .tup _ => some "tuple"
  | .lst _ => some "list"
  | _ => none
def dIsi (n : String) (x : D) : Option D := (dTy x).bind fun t => (kitB t n).map D.bl
def dTru : D → Option Bool
  | .non => some false
  | .bl b => some b
  | .int i => some (i != 0)
  | .tup xs => some (!xs.isEmpty)
  | .lst xs => some (!xs.isEmpty)
  | .dic ks => some (!ks.isEmpty)
  | _ => none

theorem ins_perm (i : Int) : ∀ l : List Int, (ins i l).Perm (i :: l)
  | [] => .refl _
  | j :: r => by
    unfold ins
    split
    · exact .refl _
    · exact ((ins_perm i r).cons j).trans (.swap i j r)
theorem isort_perm : ∀ l : List Int, (isort l).Perm l
  | [] => .refl _
  | i :: r => (ins_perm i (isort r)).trans ((isort_perm r).cons i)
theorem ins_sorted (i : Int) : ∀ {l : List Int}, l.Pairwise (· ≤ ·) → (ins i l).Pairwise (· ≤ ·)
  | [], _ => by simp [ins]
  | j :: r, h => by
    unfold ins
    obtain ⟨h1, h2⟩ := List.pairwise_cons.mp h
    split
    · rename_i hij
      refine List.pairwise_cons.mpr ⟨fun x hx => ?_, h⟩
      rcases List.mem_cons.mp hx with e | hx
      · rw [e]; exact hij
      · exact Int.le_trans hij (h1 x hx)
    · rename_i hij
      refine List.pairwise_cons.mpr ⟨fun x hx => ?_, ins_sorted i h2⟩
      rcases List.mem_cons.mp ((ins_perm i r).mem_iff.mp hx) with e | hx
      · rw [e]; omega
      · exact h1 x hx
theorem isort_sorted : ∀ l : List Int, (isort l).Pairwise (· ≤ ·)
  | [] => .nil
  | i :: r => ins_sorted i (isort_sorted r)
theorem isort_unique {l m : List Int} (p : m.Perm l) (s : m.Pairwise (· ≤ ·)) : m = isort l :=
  List.Perm.eq_of_pairwise (fun a b _ _ h1 h2 => Int.le_antisymm h1 h2) s (isort_sorted l) (p.trans (isort_perm l).symm)

/-! ### operations that the rules of two values keep -/
/-- M: what may change; it is tracked and holds the world -/
structure MOk (W : Wd) (M : Addr → Prop) (H : Hp) : Prop where
  w : ∀ a, W.at_ a → M a
  t : ∀ a, M a → H a ≠ none
theorem MOk.fresh {W : Wd} {M : Addr → Prop} {H : Hp} (m : MOk W M H) {p : Addr} (h : H p = none) : ¬ M p := fun z => m.t p z h
theorem Rel.mok {W : Wd} {Mb : Addr → Prop} {ρ : List SV} {s : W.S} {σ : L2.St} {H : Hp} (R : Rel W Mb ρ s σ H) : MOk W (MO Mb ρ σ) H := ⟨R.watM, fun _ => R.moT⟩
def OpD (W : Wd) (r : R2) (op : D → D → Option D) : Prop := ∀ (M : Addr → Prop) (H : Hp) (x y : V) (dx dy d : D), MOk W M H → RepW W M H dx x → RepW W M H dy y → op dx dy = some d →
  ∀ Q : VK, (∀ v H', Exh H H' → Rep M H' d v → Q v H') → r x y H Q
/-- the world behind an extension -/
theorem Wd.ex (W : Wd) {M : Addr → Prop} {s : W.S} {H H' : Hp} (e : Exh H H') (r : W.rel M s H) : W.rel M s H' := W.grow M s H H' (fun a o _ q => e a o q) r
section
variable {W : Wd} {ta tb tc te : TE} {fa fb fc fe : EF W.S}
def fBin {S : Type} (op : D → D → Option D) (fa fb : EF S) : EF S := fun ρ s => (fa ρ s).bind fun p => (fb ρ p.2).bind fun q => (op p.1 q.1).map fun d => (d, q.2)
theorem de_bin {r : R2} {op : D → D → Option D} (hr : OpD W r op) (ha : DW W ta fa) (hb : DW W tb fb) : DE W (tOp r ta tb) (fBin op fa fb) := by
  intro Mb ρ s σ H d s' R e Q q
  simp only [fBin, Option.bind_eq_some_iff, Option.map_eq_some_iff, Prod.mk.injEq] at e
  obtain ⟨⟨dx, s1⟩, e1, ⟨dy, s2⟩, e2, d', e3, rfl, rfl⟩ := e
  refine ha Mb ρ s σ H dx s1 R e1 _ fun x H1 g1 w1 r1 => ?_
  have R1 := R.gr g1 w1
  refine hb Mb ρ s1 σ H1 dy s2 R1 e2 _ fun y H2 g2 w2 r2 => ?_
  have R2 := R1.gr g2 w2
  exact hr _ H2 x y dx dy d' R2.mok (r1.gr R.watM g2) r2 e3 Q fun v H3 x3 r3 => q v H3 ((g1.trans g2).trans x3.gr) (W.ex x3 w2) r3
def fUn {S : Type} (op : D → Option D) (fa : EF S) : EF S := fun ρ s => (fa ρ s).bind fun p => (op p.1).map fun d => (d, p.2)
def OpU (W : Wd) (r : List V → Hp → VK → Prop) (op : D → Option D) : Prop := ∀ (M : Addr → Prop) (H : Hp) (x : V) (dx d : D), MOk W M H → RepW W M H dx x → op dx = some d →
  ∀ Q : VK, (∀ v H', Exh H H' → Rep M H' d v → Q v H') → r [x] H Q
/-- a built-in of one argument -/
theorem de_call1 {r : List V → Hp → VK → Prop} {op : D → Option D} (hr : OpU W r op) (ha : DW W ta fa) : DE W (tCB r (tCons ta tNil)) (fUn op fa) := by
  intro Mb ρ s σ H d s' R e Q q
  simp only [fUn, Option.bind_eq_some_iff, Option.map_eq_some_iff, Prod.mk.injEq] at e
  obtain ⟨⟨dx, s1⟩, e1, d', e3, rfl, rfl⟩ := e
  refine ha Mb ρ s σ H dx s1 R e1 _ fun x H1 g1 w1 r1 => ?_
  exact hr _ H1 x dx d' (R.gr g1 w1).mok r1 e3 Q fun v H3 x3 r3 => q v H3 (g1.trans x3.gr) (W.ex x3 w1) r3
/-- of two -/
theorem de_call2 {r : List V → Hp → VK → Prop} {op : D → D → Option D} (hr : OpD W (fun x y H Q => r [x, y] H Q) op) (ha : DW W ta fa) (hb : DW W tb fb) : DE W (tCB r (tCons ta (tCons tb tNil))) (fBin op fa fb) :=
  fun Mb ρ s σ H d s' R e Q q => de_bin (r := fun x y H Q => r [x, y] H Q) hr ha hb Mb ρ s σ H d s' R e Q q
end

/-! ### the operators -/
section
variable {W : Wd} {K : PySem.W.Frag}
theorem rep_int {M : Addr → Prop} {H : Hp} {i : Int} : Rep M H (.int i) (.int i) := by simp only [Rep]
theorem rep_bl {M : Addr → Prop} {H : Hp} {i : Bool} : Rep M H (.bl i) (.bl i) := by simp only [Rep]
theorem rep_non {M : Addr → Prop} {H : Hp} : Rep M H .non .non := by simp only [Rep]
theorem rep_str {M : Addr → Prop} {H : Hp} {x : Str} : Rep M H (.str x) (.str x) := by simp only [Rep]
theorem rep_tup {M : Addr → Prop} {H : Hp} {a : Addr} {vs : List V} {ds : List D} (n : ¬ M a) (h : H a = some (.tup vs)) (r : RepL M H ds vs) : Rep M H (.tup ds) (.ref a) := by
  simp only [Rep]
  exact ⟨a, vs, rfl, n, h, r⟩
theorem rep_lst {M : Addr → Prop} {H : Hp} {a : Addr} {vs : List V} {ds : List D} (n : ¬ M a) (h : H a = some (.lst vs)) (r : RepL M H ds vs) : Rep M H (.lst ds) (.ref a) := by
  simp only [Rep]
  exact ⟨a, vs, rfl, n, h, r⟩
theorem repw_int {M : Addr → Prop} {H : Hp} {i : Int} {v : V} (r : RepW W M H (.int i) v) : v = .int i := by simpa only [RepW, Rep] using r
theorem repw_bl {M : Addr → Prop} {H : Hp} {i : Bool} {v : V} (r : RepW W M H (.bl i) v) : v = .bl i := by simpa only [RepW, Rep] using r
theorem repw_str {M : Addr → Prop} {H : Hp} {i : Str} {v : V} (r : RepW W M H (.str i) v) : v = .str i := by simpa only [RepW, Rep] using r
theorem repw_non {M : Addr → Prop} {H : Hp} {v : V} (r : RepW W M H .non v) : v = .non := by simpa only [RepW, Rep] using r
theorem repw_tup {M : Addr → Prop} {H : Hp} {ds : List D} {v : V} (r : RepW W M H (.tup ds) v) : ∃ a vs, v = .ref a ∧ ¬ M a ∧ H a = some (.tup vs) ∧ RepL M H ds vs := by simpa only [RepW, Rep] using r
theorem repw_lst {M : Addr → Prop} {H : Hp} {ds : List D} {v : V} (r : RepW W M H (.lst ds) v) : ∃ a vs, v = .ref a ∧ ¬ W.at_ a ∧ H a = some (.lst vs) ∧ RepL M H ds vs := r
theorem repw_dic {M : Addr → Prop} {H : Hp} {ks : List Int} {v : V} (r : RepW W M H (.dic ks) v) : ∃ a, v = .ref a ∧ ¬ W.at_ a ∧ H a = some (.dK (dkv ks)) := r
/-- a new tuple, a new list -/
theorem new_tup {M : Addr → Prop} {H : Hp} {vs : List V} {ds : List D} (m : MOk W M H) (r : RepL M H ds vs) {Q : VK} (q : ∀ v H', Exh H H' → Rep M H' (.tup ds) v → Q v H') : ∀ p, H p = none → Q (.ref p) (upd H p (.tup vs)) := fun p hp =>
  q _ _ (.new hp) (rep_tup (m.fresh hp) upd_same (r.ex (.new hp)))
theorem new_lst {M : Addr → Prop} {H : Hp} {vs : List V} {ds : List D} (m : MOk W M H) (r : RepL M H ds vs) {Q : VK} (q : ∀ v H', Exh H H' → Rep M H' (.lst ds) v → Q v H') : ∀ p, H p = none → Q (.ref p) (upd H p (.lst vs)) := fun p hp =>
  q _ _ (.new hp) (rep_lst (m.fresh hp) upd_same (r.ex (.new hp)))
def rAddU (K : PySem.W.Frag) : R2 := fun x y H Q => rI0 (fun i j => .int (i + j)) x y H Q ∨ rCatA K x y H Q ∨ rCat x y H Q
theorem od_add : OpD W (rAddU K) dAdd := by
  intro M H x y dx dy d m r1 r2 e Q q
  unfold dAdd at e
  split at e
  · cases e
    exact .inl ⟨_, _, repw_int r1, repw_int r2, q _ _ .refl rep_int⟩
  · split at e
    · rename_i hz
      cases e
      obtain ⟨a, vs, rfl, n1, h1, l1⟩ := repw_tup r1
      obtain ⟨b, us, rfl, n2, h2, l2⟩ := repw_tup r2
      refine .inr (.inl ⟨a, b, vs, us, rfl, rfl, .of h1, .of h2, lim_ok (by rw [l1.length, l2.length]; exact hz), fun z => ?_, fun _ z => ?_, fun _ _ => new_tup m (l1.append l2) q⟩)
      · subst z
        exact q _ _ .refl (rep_tup n2 h2 (l1.append l2))
      · subst z
        have l := l1.append l2
        rw [List.append_nil] at l
        exact q _ _ .refl (rep_tup n1 h1 l)
    · cases e
  · split at e
    · rename_i hz
      cases e
      obtain ⟨a, vs, rfl, n1, h1, l1⟩ := repw_lst r1
      obtain ⟨b, us, rfl, n2, h2, l2⟩ := repw_lst r2
      exact .inr (.inr ⟨a, b, vs, us, rfl, rfl, h1, h2, lim_ok (by rw [l1.length, l2.length]; exact hz), new_lst m (l1.append l2) q⟩)
    · cases e
  · cases e
theorem od_sub : OpD W (rI0 fun i j => .int (i - j)) dSub := by
  intro M H x y dx dy d m r1 r2 e Q q
  unfold dSub at e
  split at e
  · cases e
    exact ⟨_, _, repw_int r1, repw_int r2, q _ _ .refl rep_int⟩
  · cases e
theorem od_mul : OpD W (rI CMul fun i j => .int (i * j)) dMul := by
  intro M H x y dx dy d m r1 r2 e Q q
  unfold dMul at e
  split at e
  · split at e
    · rename_i hz
      cases e
      exact ⟨_, _, repw_int r1, repw_int r2, hz, q _ _ .refl rep_int⟩
    · cases e
  · cases e
theorem od_mod : OpD W (rI (fun _ j => 0 < j) fun i j => .int (i % j)) dMod := by
  intro M H x y dx dy d m r1 r2 e Q q
  unfold dMod at e
  split at e
  · split at e
    · rename_i hz
      cases e
      exact ⟨_, _, repw_int r1, repw_int r2, hz, q _ _ .refl rep_int⟩
    · cases e
  · cases e
theorem od_div : OpD W (rI CDiv fun i j => .int (i / j)) dDiv := by
  intro M H x y dx dy d m r1 r2 e Q q
  unfold dDiv at e
  split at e
  · split at e
    · rename_i hz
      cases e
      exact ⟨_, _, repw_int r1, repw_int r2, hz, q _ _ .refl rep_int⟩
    · cases e
  · cases e
theorem od_pow : OpD W (rI CPow fun i j => .int (i ^ j.toNat)) dPow := by
  intro M H x y dx dy d m r1 r2 e Q q
  unfold dPow at e
  split at e
  · split at e
    · rename_i hz
      cases e
      exact ⟨_, _, repw_int r1, repw_int r2, hz, q _ _ .refl rep_int⟩
    · cases e
  · cases e
theorem od_cmp {p : Int → Int → Bool} : OpD W (rI0 fun i j => .bl (p i j)) (dCmp p) := by
  intro M H x y dx dy d m r1 r2 e Q q
  unfold dCmp at e
  split at e
  · cases e
    exact ⟨_, _, repw_int r1, repw_int r2, q _ _ .refl rep_bl⟩
  · cases e
theorem dp_ints {M : Addr → Prop} {H : Hp} {K : PySem.W.Frag} : ∀ (ns : List Int), DpAll K H (ns.map V.int) (ns.map PyData.int)
  | [] => .nil
  | n :: r => .cons (.int n) (dp_ints (M := M) r)
theorem shaped_ints (ns : List Int) : SeqAt.shaped (.tuple (ns.map PyData.int)) = true := by
  have h1 : ∀ l : List Int, PyData.canLayAll0 (l.map PyData.int) = true := by
    intro l
    induction l with
    | nil => simp [PyData.canLayAll0]
    | cons n r ih => simp [PyData.canLayAll0, PyData.canLay0, ih]
  have h2 : ∀ l : List Int, PyData.depthAll (l.map PyData.int) = 0 := by
    intro l
    induction l with
    | nil => simp [PyData.depthAll]
    | cons n r ih => simp [PyData.depthAll, PyData.depth, ih]
  simp [SeqAt.shaped, PyData.canLay0, PyData.depth, h1, h2]
theorem eqv_ints (ns ms : List Int) : PyData.eqv (.tuple (ns.map PyData.int)) (.tuple (ms.map PyData.int)) = decide (ns = ms) := by
  have h : ∀ l m : List Int, PyData.eqvAll (l.map PyData.int) (m.map PyData.int) = decide (l = m) := by
    intro l
    induction l with
    | nil => intro m; cases m <;> simp [PyData.eqvAll]
    | cons n r ih => intro m; cases m with
      | nil => simp [PyData.eqvAll]
      | cons k q => simp only [List.map_cons, PyData.eqvAll, PyData.eqv, ih, List.cons.injEq]; by_cases e : n = k <;> simp [e]
  simp only [PyData.eqv, h]
def rEqU (K : PySem.W.Frag) : R2 := fun x y H Q => rEq x y H Q ∨ rEqD K x y H Q
def rNeU (K : PySem.W.Frag) : R2 := fun x y H Q => rNe x y H Q ∨ rNeD K x y H Q
theorem od_eqB {M : Addr → Prop} {H : Hp} {x y : V} {dx dy : D} {b : Bool} (r1 : RepW W M H dx x) (r2 : RepW W M H dy y) (e : dEqB dx dy = some b) :
    (scal x y = true ∧ b = decide (x = y)) ∨ ∃ d e, Dp K H x d ∧ Dp K H y e ∧ SeqAt.shaped d = true ∧ SeqAt.shaped e = true ∧ b = PyData.eqv d e := by
  unfold dEqB at e
  split at e
  · cases e
    rw [repw_int r1, repw_int r2]
    exact .inl ⟨rfl, by simp⟩
  · cases e
    rw [repw_bl r1, repw_bl r2]
    exact .inl ⟨rfl, by simp⟩
  · cases e
    rw [repw_str r1, repw_str r2]
    exact .inl ⟨rfl, by simp⟩
  · split at e
    · rename_i ns ms h1 h2
      cases e
      obtain ⟨a, vs, rfl, n1, g1, l1⟩ := repw_tup r1
      obtain ⟨c, us, rfl, n2, g2, l2⟩ := repw_tup r2
      rw [ints_of h1] at l1
      rw [ints_of h2] at l2
      rw [l1.ints] at g1
      rw [l2.ints] at g2
      exact .inr ⟨_, _, .tup (.of g1) (dp_ints (M := M) ns), .tup (.of g2) (dp_ints (M := M) ms), shaped_ints ns, shaped_ints ms, (eqv_ints ns ms).symm⟩
    · cases e
  · cases e
theorem od_eq : OpD W (rEqU K) dEq := by
  intro M H x y dx dy d m r1 r2 e Q q
  unfold dEq at e
  obtain ⟨b, e1, rfl⟩ := Option.map_eq_some_iff.mp e
  rcases od_eqB (K := K) r1 r2 e1 with ⟨h1, rfl⟩ | ⟨d1, d2, h1, h2, h3, h4, rfl⟩
  · exact .inl ⟨h1, q _ _ .refl rep_bl⟩
  · exact .inr ⟨d1, d2, h1, h2, h3, h4, q _ _ .refl rep_bl⟩
theorem od_ne : OpD W (rNeU K) dNe := by
  intro M H x y dx dy d m r1 r2 e Q q
  unfold dNe at e
  obtain ⟨b, e1, rfl⟩ := Option.map_eq_some_iff.mp e
  rcases od_eqB (K := K) r1 r2 e1 with ⟨h1, rfl⟩ | ⟨d1, d2, h1, h2, h3, h4, rfl⟩
  · exact .inl ⟨h1, q _ _ .refl rep_bl⟩
  · exact .inr ⟨d1, d2, h1, h2, h3, h4, q _ _ .refl rep_bl⟩
theorem isN_of {M : Addr → Prop} {H : Hp} {x y : V} {dx dy : D} {b : D} (r1 : RepW W M H dx x) (r2 : RepW W M H dy y) (e : dIsN dx dy = some b) : y = .non ∧ b = .bl (decide (x = .non)) := by
  unfold dIsN at e
  split at e
  · cases e
    rw [repw_non r1, repw_non r2]
    exact ⟨rfl, by simp⟩
  · cases e
  · cases e
    refine ⟨repw_non r2, ?_⟩
    rename_i n1 n2
    cases dx with
    | non => exact (n1 rfl).elim
    | dic ks => exact (n2 ks rfl).elim
    | bl c => rw [repw_bl r1]; rfl
    | int c => rw [repw_int r1]; rfl
    | str c => rw [repw_str r1]; rfl
    | tup c => obtain ⟨a, vs, rfl, _⟩ := repw_tup r1; rfl
    | lst c => obtain ⟨a, vs, rfl, _⟩ := repw_lst r1; rfl
    | h a =>
      have z : x = .ref a := by simpa only [RepW, Rep] using r1
      rw [z]; rfl
  · cases e
theorem od_isN : OpD W (fun x y H Q => y = .non ∧ Q (.bl (decide (x = .non))) H) dIsN := by
  intro M H x y dx dy d m r1 r2 e Q q
  obtain ⟨h1, rfl⟩ := isN_of r1 r2 e
  exact ⟨h1, q _ _ .refl rep_bl⟩
theorem od_notN : OpD W (fun x y H Q => y = .non ∧ Q (.bl (!decide (x = .non))) H) dIsNot := by
  intro M H x y dx dy d m r1 r2 e Q q
  unfold dIsNot at e
  split at e
  · rename_i b hb
    cases e
    obtain ⟨h1, h2⟩ := isN_of r1 r2 hb
    cases h2
    exact ⟨h1, q _ _ .refl rep_bl⟩
  · cases e
theorem seq_of {M : Addr → Prop} {H : Hp} {x : V} {dx : D} {ds : List D} (r : RepW W M H dx x) (e : seq? dx = some ds) : ∃ a vs, x = .ref a ∧ (SqL K H a vs ∨ SqT K H a vs) ∧ RepL M H ds vs := by
  unfold seq? at e
  split at e
  · cases e
    obtain ⟨a, vs, rfl, n, h, l⟩ := repw_tup r
    exact ⟨a, vs, rfl, .inr (.of h), l⟩
  · cases e
    obtain ⟨a, vs, rfl, n, h, l⟩ := repw_lst r
    exact ⟨a, vs, rfl, .inl (.of h), l⟩
  · cases e
theorem inV_ints (i : Int) (ns : List Int) : inV (.int i) (ns.map V.int) = decide (i ∈ ns) := by
  unfold inV
  induction ns with
  | nil => rfl
  | cons n r ih =>
    rw [List.map_cons, List.any_cons, ih]
    by_cases e : i = n
    · subst e; simp [eqV]
    · have e' : ¬ n = i := fun z => e z.symm
      simp [eqV, e, e']
theorem flat_ints (ns : List Int) : (ns.map V.int).all flatV = true := by
  induction ns with
  | nil => rfl
  | cons n r ih => rw [List.map_cons, List.all_cons, ih]; rfl
theorem od_in0 {M : Addr → Prop} {H : Hp} {x y : V} {dx dy : D} {b : Bool} (r1 : RepW W M H dx x) (r2 : RepW W M H dy y) (e : dInB dx dy = some b) :
    ∃ p xs, y = .ref p ∧ (SqL K H p xs ∨ SqT K H p xs) ∧ flatV x = true ∧ xs.all flatV = true ∧ b = inV x xs := by
  unfold dInB at e
  split at e
  · rename_i i ys h1
    obtain ⟨ns, e1, rfl⟩ := Option.map_eq_some_iff.mp e
    obtain ⟨a, vs, rfl, g, l⟩ := seq_of (K := K) r2 h1
    rw [ints_of e1] at l
    rw [l.ints] at g
    rw [repw_int r1]
    exact ⟨a, _, rfl, g, rfl, flat_ints ns, (inV_ints i ns).symm⟩
  · cases e
theorem od_in : OpD W (rIn K false) dIn := by
  intro M H x y dx dy d m r1 r2 e Q q
  obtain ⟨b, e1, rfl⟩ := Option.map_eq_some_iff.mp (show (dInB dx dy).map D.bl = some d from e)
  obtain ⟨p, xs, h1, h2, h3, h4, rfl⟩ := od_in0 (K := K) r1 r2 e1
  exact ⟨p, xs, h1, h2, h3, h4, q _ _ .refl rep_bl⟩
theorem od_notIn : OpD W (rIn K true) dNotIn := by
  intro M H x y dx dy d m r1 r2 e Q q
  obtain ⟨b, e1, rfl⟩ := Option.map_eq_some_iff.mp (show (dInB dx dy).map (fun b => D.bl !b) = some d from e)
  obtain ⟨p, xs, h1, h2, h3, h4, rfl⟩ := od_in0 (K := K) r1 r2 e1
  exact ⟨p, xs, h1, h2, h3, h4, q _ _ .refl rep_bl⟩
theorem atI_rep {M : Addr → Prop} {H : Hp} {ds : List D} {vs : List V} {i : Int} {d : D} (l : RepL M H ds vs) (e : atI ds i = some d) : ∃ v, atI vs i = some v ∧ Rep M H d v := by
  unfold atI at e ⊢
  obtain ⟨j, e1, e2⟩ := Option.bind_eq_some_iff.mp e
  obtain ⟨v, h1, h2⟩ := l.get e2
  rw [l.length, e1]
  exact ⟨v, h1, h2⟩
theorem od_item : OpD W (rIx K) dItem := by
  intro M H x y dx dy d m r1 r2 e Q q
  unfold dItem at e
  split at e
  · rename_i xs i h1
    obtain ⟨a, vs, rfl, g, l⟩ := seq_of (K := K) r1 h1
    obtain ⟨v, h2, h3⟩ := atI_rep l e
    rw [repw_int r2]
    rcases g with g | g
    · exact .inl ⟨a, vs, i, v, rfl, rfl, g, h2, q _ _ .refl h3⟩
    · exact .inr (.inl ⟨a, vs, i, v, rfl, rfl, g, h2, q _ _ .refl h3⟩)
  · cases e

/-! ### built-ins -/
theorem ou_len : OpU W (fun xs H Q => (∃ x n, xs = [x] ∧ LenV K x H n ∧ Q (.int n) H) ∨ ∃ a kvs, xs = [V.ref a] ∧ H a = some (.dK kvs) ∧ Q (.int kvs.length) H) dLen := by
  intro M H x dx d m r e Q q
  unfold dLen at e
  split at e
  · cases e
    obtain ⟨a, vs, rfl, n, h, l⟩ := repw_tup r
    refine .inl ⟨_, _, rfl, .inr ⟨vs, .of h, rfl⟩, ?_⟩
    rw [l.length]
    exact q _ _ .refl rep_int
  · cases e
    obtain ⟨a, vs, rfl, n, h, l⟩ := repw_lst r
    refine .inl ⟨_, _, rfl, .inl ⟨vs, .of h, rfl⟩, ?_⟩
    rw [l.length]
    exact q _ _ .refl rep_int
  · cases e
    obtain ⟨a, rfl, n, h⟩ := repw_dic r
    refine .inr ⟨_, _, rfl, h, ?_⟩
    rw [show (dkv _).length = _ from List.length_map _]
    exact q _ _ .refl rep_int
  · cases e
theorem ou_abs : OpU W (fun xs H Q => ∃ i, xs = [.int i] ∧ Q (.int (if i < 0 then -i else i)) H) dAbs := by
  intro M H x dx d m r e Q q
  unfold dAbs at e
  split at e
  · cases e
    exact ⟨_, by rw [repw_int r], q _ _ .refl rep_int⟩
  · cases e
theorem ou_int : OpU W (fun xs H Q => (∃ i, xs = [.int i] ∧ Q (.int i) H) ∨ ∃ k, xs = [.bl k] ∧ Q (.int (if k then 1 else 0)) H) dToInt := by
  intro M H x dx d m r e Q q
  unfold dToInt at e
  split at e
  · cases e
    exact .inl ⟨_, by rw [repw_int r], q _ _ .refl rep_int⟩
  · cases e
    exact .inr ⟨_, by rw [repw_bl r], q _ _ .refl rep_int⟩
  · cases e
theorem od_max2 : OpD W (fun x y H Q => ∃ i j, [x, y] = [.int i, .int j] ∧ Q (.int (if j > i then j else i)) H) dMax2 := by
  intro M H x y dx dy d m r1 r2 e Q q
  unfold dMax2 at e
  split at e
  · cases e
    exact ⟨_, _, by rw [repw_int r1, repw_int r2], q _ _ .refl rep_int⟩
  · cases e
theorem ou_tuple : OpU W (fun xs H Q => ∃ p ys, xs = [.ref p] ∧ ((SqL K H p ys ∧ ∀ l, H l = none → Q (.ref l) (upd H l (.tup ys))) ∨ (SqT K H p ys ∧ Q (.ref p) H))) dTuple := by
  intro M H x dx d m r e Q q
  unfold dTuple at e
  split at e
  · cases e
    obtain ⟨a, vs, rfl, n, h, l⟩ := repw_tup r
    exact ⟨a, vs, rfl, .inr ⟨.of h, q _ _ .refl (rep_tup n h l)⟩⟩
  · cases e
    obtain ⟨a, vs, rfl, n, h, l⟩ := repw_lst r
    exact ⟨a, vs, rfl, .inl ⟨.of h, new_tup m l q⟩⟩
  · cases e
theorem ou_list : OpU W (fun xs H Q => ∃ p ys, xs = [.ref p] ∧ (SqL K H p ys ∨ SqT K H p ys) ∧ ∀ l, H l = none → Q (.ref l) (upd H l (.lst ys))) dList := by
  intro M H x dx d m r e Q q
  unfold dList at e
  split at e
  · cases e
    obtain ⟨a, vs, rfl, n, h, l⟩ := repw_tup r
    exact ⟨a, vs, rfl, .inr (.of h), new_lst m l q⟩
  · cases e
    obtain ⟨a, vs, rfl, n, h, l⟩ := repw_lst r
    exact ⟨a, vs, rfl, .inl (.of h), new_lst m l q⟩
  · cases e
def rSortU (K : PySem.W.Frag) : List V → Hp → VK → Prop := fun xs H Q => rSortedI K xs H Q ∨ ∃ (a : Addr) (kvs : List (Key × V)) (ks : List Int), xs = [.ref a] ∧ Rd H a (.dK kvs) ∧ kvs.map (·.1) = ks.map Sum.inl ∧ ks.length < 64 ∧
    ∀ (ys : List Int) (p : Addr), ys.Perm ks → ys.Pairwise (· ≤ ·) → H p = none → Q (.ref p) (upd H p (.lst (ys.map V.int)))
theorem ou_sorted : OpU W (rSortU K) dSorted := by
  intro M H x dx d m r e Q q
  unfold dSorted at e
  split at e
  · obtain ⟨ns, e1, rfl⟩ := Option.map_eq_some_iff.mp e
    obtain ⟨a, vs, rfl, n, h, l⟩ := repw_lst r
    rw [ints_of e1] at l
    rw [l.ints] at h
    refine .inl ⟨a, ns, rfl, .of h, fun ns' p hp hs hn => ?_⟩
    rw [isort_unique hp hs]
    exact new_lst m RepL.ofInts q p hn
  · split at e
    · rename_i ks hk
      cases e
      obtain ⟨a, rfl, n, h⟩ := repw_dic r
      refine .inr ⟨a, _, ks, rfl, .inl h, ?_, hk, fun ys p hp hs hn => ?_⟩
      · unfold dkv
        rw [List.map_map]
        rfl
      · rw [isort_unique hp hs]
        exact new_lst m RepL.ofInts q p hn
    · cases e
  · cases e
theorem ou_sum : OpU W (rSum K) dSum := by
  intro M H x dx d m r e Q q
  unfold dSum at e
  split at e
  · obtain ⟨ns, e1, rfl⟩ := Option.map_eq_some_iff.mp e
    obtain ⟨a, vs, rfl, n, h, l⟩ := repw_lst r
    rw [ints_of e1] at l
    rw [l.ints] at h
    exact ⟨a, ns, rfl, .of h, q _ _ .refl rep_int⟩
  · cases e
theorem ou_any : OpU W (rAny K) dAny := by
  intro M H x dx d m r e Q q
  unfold dAny at e
  split at e
  · obtain ⟨ns, e1, rfl⟩ := Option.map_eq_some_iff.mp e
    obtain ⟨a, vs, rfl, n, h, l⟩ := repw_lst r
    rw [bls_of e1] at l
    rw [l.bls] at h
    exact ⟨a, ns, rfl, .of h, q _ _ .refl rep_bl⟩
  · cases e
theorem ou_all : OpU W (rAll K) dAll := by
  intro M H x dx d m r e Q q
  unfold dAll at e
  split at e
  · obtain ⟨ns, e1, rfl⟩ := Option.map_eq_some_iff.mp e
    obtain ⟨a, vs, rfl, n, h, l⟩ := repw_lst r
    rw [bls_of e1] at l
    rw [l.bls] at h
    exact ⟨a, ns, rfl, .of h, q _ _ .refl rep_bl⟩
  · cases e
theorem ty_of {M : Addr → Prop} {H : Hp} {x : V} {dx : D} {t : String} (r : RepW W M H dx x) (e : dTy dx = some t) : TyX K H x (.type t) := by
  unfold dTy at e
  split at e
  · cases e; rw [repw_non r]; exact .base .non
  · cases e; rw [repw_bl r]; exact .base (.bl _)
  · cases e; rw [repw_int r]; exact .base (.int _)
  · cases e; rw [repw_str r]; exact .base (.str _)
  · cases e
    obtain ⟨a, vs, rfl, n, h, l⟩ := repw_tup r
    exact .base (.tup h)
  · cases e
    obtain ⟨a, vs, rfl, n, h, l⟩ := repw_lst r
    exact .base (.lst h)
  · cases e
theorem od_isi {n : String} : OpU W (fun xs H Q => ∃ x, xs = [x] ∧ rIsi K [x, .ty n] H Q) (dIsi n) := by
  intro M H x dx d m r e Q q
  unfold dIsi at e
  obtain ⟨t, e1, e2⟩ := Option.bind_eq_some_iff.mp e
  obtain ⟨b, e3, rfl⟩ := Option.map_eq_some_iff.mp e2
  exact ⟨x, rfl, x, .ty n, .type t, .type n, b, rfl, .ty n, ty_of r e1, kit_ty e3, q _ _ .refl rep_bl⟩
theorem isE {α β : Type} : ∀ {vs : List α} {ds : List β}, vs.length = ds.length → (!ds.isEmpty) = !vs.isEmpty
  | [], [], _ => rfl
  | _ :: _, _ :: _, _ => rfl
  | [], _ :: _, e => by simp at e
  | _ :: _, [], e => by simp at e
theorem tru_of {M : Addr → Prop} {H : Hp} {x : V} {dx : D} {b : Bool} (r : RepW W M H dx x) (e : dTru dx = some b) : TruV K x H b := by
  unfold dTru at e
  split at e
  · cases e; rw [repw_non r]; rfl
  · cases e; rw [repw_bl r]; rfl
  · cases e; rw [repw_int r]; rfl
  · cases e
    obtain ⟨a, vs, rfl, n, h, l⟩ := repw_tup r
    refine .inr (.inl ⟨vs, .of h, ?_⟩)
    exact isE l.length
  · cases e
    obtain ⟨a, vs, rfl, n, h, l⟩ := repw_lst r
    refine .inl ⟨vs, .of h, ?_⟩
    exact isE l.length
  · cases e
    obtain ⟨a, rfl, n, h⟩ := repw_dic r
    refine .inr (.inr ⟨_, h, ?_⟩)
    rename_i ks
    cases ks <;> rfl
  · cases e
end
end K7
end
section
set_option maxRecDepth 100000
/-! K76, part c: the rules for expressions and tests. -/
namespace K7
open PySem L2

/-- the built-ins' names are not the module's own -/
structure Bis (mg : Str → Option Value) : Prop where
  len : mg "len" = none
  isinstance : mg "isinstance" = none
  int : mg "int" = none
  bool : mg "bool" = none
  tuple : mg "tuple" = none
  list : mg "list" = none
  str : mg "str" = none
  all : mg "all" = none
  any : mg "any" = none
  sum : mg "sum" = none
  max : mg "max" = none
  abs : mg "abs" = none
  sorted : mg "sorted" = none
  range : mg "range" = none
  enumerate : mg "enumerate" = none
  zip : mg "zip" = none

section
variable {W : Wd} {X : Cx} {a b c e : Expr} {es rest : List Expr} {ta tb tc te : TE} {fa fb fc fe : EF W.S} {pos pos' : Pos}
/-! ### names, constants -/
def fC {S : Type} (d : D) : EF S := fun _ s => some (d, s)
def fN {S : Type} (i : Nat) : EF S := fun ρ s => match ρ[i]? with
  | some (.im d) => some (d, s)
  | _ => none
def fNw {S : Type} (i : Nat) : EF S := fun ρ s => match ρ[i]? with
  | some (.im d) => some (d, s)
  | some (.ow ds) => some (.lst ds, s)
  | some (.od ks) => some (.dic ks, s)
  | _ => none
theorem de_c {d : D} {v : V} (h : ∀ M H, Rep M H d v) : DE W (tC v) (fC d) := by
  intro Mb ρ s σ H d' s' R e Q q
  cases e
  exact q v H .refl R.world (h _ _)
theorem xe_int {i : Int} {j : Nat} : XE W X (.Constant (.int i) j pos) (fC (.int i)) := ⟨pe_int, de_c fun _ _ => rep_int⟩
theorem xe_bl {i : Bool} {j : Nat} : XE W X (.Constant (.bool i) j pos) (fC (.bl i)) := ⟨pe_bl, de_c fun _ _ => rep_bl⟩
theorem xe_non {j : Nat} : XE W X (.Constant .none j pos) (fC .non) := ⟨pe_non, de_c fun _ _ => rep_non⟩
theorem xe_str {x : Str} {j : Nat} : XE W X (.Constant (.str x) j pos) (fC (.str x)) := ⟨pe_str, de_c fun _ _ => rep_str⟩
/-- a module's int -/
theorem xe_gint {x : Str} {i : Int} (hm : ∃ t, X.mg x = some (.int i t)) (hg : Gl X x := by rfl) (hd : (x == ("__debug__" : Str)) = false := by decide) : XE W X (.Name x pos) (fC (.int i)) := by
  obtain ⟨t, hm⟩ := hm
  exact ⟨pe_glob (v := .int i) hg hm ⟨t, rfl⟩ hd, de_c fun _ _ => rep_int⟩
theorem slot_get {Mb : Addr → Prop} {ρ : List SV} {s : W.S} {σ : L2.St} {H : Hp} {i : Nat} {x : SV} (R : Rel W Mb ρ s σ H) (h : ρ[i]? = some x) : ∃ o, σ[i]? = some o ∧ SlotR (MO Mb ρ σ) H x o := by
  have hi : i < σ.length := by rw [R.len]; exact (List.getElem?_eq_some_iff.mp h).1
  exact ⟨σ[i], List.getElem?_eq_getElem hi, R.slot i x _ h (List.getElem?_eq_getElem hi)⟩
theorem de_n {i : Nat} : DE W (tVar i) (fN i) := by
  intro Mb ρ s σ H d s' R e Q q
  unfold fN at e
  split at e
  · rename_i d' h
    cases e
    obtain ⟨o, h1, v, rfl, r⟩ := slot_get R h
    exact ⟨v, h1, q v H .refl R.world r⟩
  · cases e
theorem dw_n {i : Nat} : DW W (tVar i) (fNw i) := by
  intro Mb ρ s σ H d s' R e Q q
  unfold fNw at e
  split at e
  · rename_i d' h
    cases e
    obtain ⟨o, h1, v, rfl, r⟩ := slot_get R h
    exact ⟨v, h1, q v H .refl R.world (.of R.watM r)⟩
  · rename_i ds h
    cases e
    obtain ⟨o, h1, x, vs, rfl, h2, r⟩ := slot_get R h
    exact ⟨.ref x, h1, q _ H .refl R.world ⟨x, vs, rfl, R.ownW ⟨i, ⟨_, h, rfl⟩, h1⟩, h2, r⟩⟩
  · rename_i ds h
    cases e
    obtain ⟨o, h1, x, rfl, h2⟩ := slot_get R h
    exact ⟨.ref x, h1, q _ H .refl R.world ⟨x, rfl, R.ownW ⟨i, ⟨_, h, rfl⟩, h1⟩, h2⟩⟩
  · cases e
theorem xe_n (i : Nat) {x : Str} (hN : X.N[i]? = some x := by rfl) (hv : Vis X.env.scope x := by first | exact Or.inl rfl | exact Or.inr (Or.inl rfl) | exact Or.inr (Or.inr rfl)) (hd : (x == ("__debug__" : Str)) = false := by decide)
    (hcd : (x == ("__classdict__" : Str)) = false := by decide) : XE W X (.Name x pos) (fN i) := ⟨pe_var hN hv hd hcd, de_n⟩
theorem xw_n (i : Nat) {x : Str} (hN : X.N[i]? = some x := by rfl) (hv : Vis X.env.scope x := by first | exact Or.inl rfl | exact Or.inr (Or.inl rfl) | exact Or.inr (Or.inr rfl)) (hd : (x == ("__debug__" : Str)) = false := by decide)
    (hcd : (x == ("__classdict__" : Str)) = false := by decide) : XW W X (.Name x pos) (fNw i) := ⟨pe_var hN hv hd hcd, dw_n⟩

/-! ### argument lists, displays -/
def aNil {S : Type} : AF S := fun _ s => some ([], s)
def aCons {S : Type} (fa : EF S) (fr : AF S) : AF S := fun ρ s => (fa ρ s).bind fun p => (fr ρ p.2).map fun q => (p.1 :: q.1, q.2)
theorem xa_nil : XA W X [] aNil := ⟨pa_nil, fun Mb ρ s σ H ds s' R e Q q => by
  cases e
  exact q [] H .refl R.world .nil⟩
theorem xa_cons {fr : AF W.S} (ha : XE W X e fe) (hr : XA W X es fr) (hs : starEach (e :: es) X.env = (false, eval e X.env) :: starEach es X.env := by rfl) : XA W X (e :: es) (aCons fe fr) := by
  refine ⟨pa_cons ha.p hr.p hs, fun Mb ρ s σ H ds s' R e Q q => ?_⟩
  simp only [aCons, Option.bind_eq_some_iff, Option.map_eq_some_iff, Prod.mk.injEq] at e
  obtain ⟨⟨d, s1⟩, e1, ⟨dr, s2⟩, e2, rfl, rfl⟩ := e
  refine ha.d Mb ρ s σ H d s1 R e1 _ fun v H1 g1 w1 r1 => ?_
  have R1 := R.gr g1 w1
  refine hr.d Mb ρ s1 σ H1 dr s2 R1 e2 _ fun vs H2 g2 w2 r2 => ?_
  exact q (v :: vs) H2 (g1.trans g2) w2 (.cons (r1.grow (gr_mo R.watM g2)) r2)
def fTup {S : Type} (fs : AF S) : EF S := fun ρ s => (fs ρ s).bind fun p => if p.1.length ≤ LIM then some (.tup p.1, p.2) else none
def fLst {S : Type} (fs : AF S) : EF S := fun ρ s => (fs ρ s).bind fun p => if p.1.length ≤ LIM then some (.lst p.1, p.2) else none
theorem xe_tup {x1 : Nat} {fr : AF W.S} (h : XA W X es fr) : XE W X (.Tuple es x1 pos) (fTup fr) := by
  refine ⟨pe_tup h.p, fun Mb ρ s σ H d s' R e Q q => ?_⟩
  simp only [fTup, Option.bind_eq_some_iff] at e
  obtain ⟨⟨ds, s1⟩, e1, e2⟩ := e
  split at e2
  · rename_i hz
    cases e2
    refine h.d Mb ρ s σ H ds _ R e1 _ fun vs H1 g1 w1 r1 => ⟨lim_ok (by rw [r1.length]; exact hz), ?_⟩
    exact new_tup (R.gr g1 w1).mok r1 fun v H2 x2 r2 => q v H2 (g1.trans x2.gr) (W.ex x2 w1) r2
  · cases e2
theorem xe_lst {fr : AF W.S} (h : XA W X es fr) : XE W X (.List es pos) (fLst fr) := by
  refine ⟨pe_lst h.p, fun Mb ρ s σ H d s' R e Q q => ?_⟩
  simp only [fLst, Option.bind_eq_some_iff] at e
  obtain ⟨⟨ds, s1⟩, e1, e2⟩ := e
  split at e2
  · rename_i hz
    cases e2
    refine h.d Mb ρ s σ H ds _ R e1 _ fun vs H1 g1 w1 r1 => ⟨lim_ok (by rw [r1.length]; exact hz), ?_⟩
    exact new_lst (R.gr g1 w1).mok r1 fun v H2 x2 r2 => q v H2 (g1.trans x2.gr) (W.ex x2 w1) r2
  · cases e2

/-! ### operators -/
theorem op_addU : OpR X (binaryOp .Add) (rAddU X.K) := by
  intro pins s σ H x y v u Q I rx ry h
  rcases h with h | h | h
  · exact op_add pins s σ H x y v u Q I rx ry h
  · exact op_catA pins s σ H x y v u Q I rx ry h
  · exact op_cat pins s σ H x y v u Q I rx ry h
theorem xe_add (ha : XW W X a fa) (hb : XW W X b fb) : XE W X (.BinOp a .Add b pos) (fBin dAdd fa fb) := ⟨pe_op op_addU ha.p hb.p, de_bin od_add ha.d hb.d⟩
theorem xe_sub (ha : XW W X a fa) (hb : XW W X b fb) : XE W X (.BinOp a .Sub b pos) (fBin dSub fa fb) := ⟨pe_op op_sub ha.p hb.p, de_bin od_sub ha.d hb.d⟩
theorem xe_mul (ha : XW W X a fa) (hb : XW W X b fb) : XE W X (.BinOp a .Mult b pos) (fBin dMul fa fb) := ⟨pe_op op_mul ha.p hb.p, de_bin od_mul ha.d hb.d⟩
theorem xe_mod (ha : XW W X a fa) (hb : XW W X b fb) : XE W X (.BinOp a .Mod b pos) (fBin dMod fa fb) := ⟨pe_op op_mod ha.p hb.p, de_bin od_mod ha.d hb.d⟩
theorem xe_div (ha : XW W X a fa) (hb : XW W X b fb) : XE W X (.BinOp a .FloorDiv b pos) (fBin dDiv fa fb) := ⟨pe_op op_fdiv ha.p hb.p, de_bin od_div ha.d hb.d⟩
theorem xe_pow (ha : XW W X a fa) (hb : XW W X b fb) : XE W X (.BinOp a .Pow b pos) (fBin dPow fa fb) := ⟨pe_op op_pow ha.p hb.p, de_bin od_pow ha.d hb.d⟩
/-! ### comparisons: by an operator's rule -/
structure CmpD (W : Wd) (X : Cx) (op : CmpOp) (r : R2) (f : D → D → Option D) : Prop where
  p : OpR X (compareOp op) r
  d : OpD W r f
theorem c_lt : CmpD W X .Lt (rI0 fun i j => .bl (decide (i < j))) dLt := ⟨op_lt, od_cmp⟩
theorem c_le : CmpD W X .LtE (rI0 fun i j => .bl (decide (i ≤ j))) dLe := ⟨op_le, od_cmp⟩
theorem c_gt : CmpD W X .Gt (rI0 fun i j => .bl (decide (j < i))) dGt := ⟨op_gt, od_cmp⟩
theorem c_ge : CmpD W X .GtE (rI0 fun i j => .bl (decide (j ≤ i))) dGe := ⟨op_ge, od_cmp⟩
theorem c_eq (hu : X.A.units + 64 < cLine) : CmpD W X .Eq (rEqU X.K) dEq := ⟨op_eq.or (op_eqD hu), od_eq⟩
theorem c_ne (hu : X.A.units + 64 < cLine) : CmpD W X .NotEq (rNeU X.K) dNe := ⟨op_ne.or (op_neD hu), od_ne⟩
theorem c_isN : CmpD W X .Is (fun x y H Q => y = .non ∧ Q (.bl (decide (x = .non))) H) dIsN := ⟨op_isN, od_isN⟩
theorem c_notN : CmpD W X .IsNot (fun x y H Q => y = .non ∧ Q (.bl (!decide (x = .non))) H) dIsNot := ⟨op_notN, od_notN⟩
theorem c_in : CmpD W X .In (rIn X.K false) dIn := ⟨op_in_seq, od_in⟩
theorem c_notIn : CmpD W X .NotIn (rIn X.K true) dNotIn := ⟨op_notIn_seq, od_notIn⟩
theorem xe_cmp {op : CmpOp} {r : R2} {f : D → D → Option D} (ho : CmpD W X op r f) (ha : XW W X a fa) (hb : XW W X b fb) (hm : behindInMarks op b = false := by first | exact nomark _ (by decide) (by decide) | rfl) : XE W X (.Compare a [op] [b] pos) (fBin f fa fb) :=
  ⟨pe_cmpR ho.p ha.p hb.p hm, de_bin ho.d ha.d hb.d⟩
/-- a test from a value that is a bool -/
def fT {S : Type} (f : EF S) : TF S := fun ρ s => (f ρ s).bind fun p => match p.1 with
  | .bl b => some (b, p.2)
  | _ => none
theorem dt_test (h : DE W te fe) : DT W (tTest te) (fT fe) := by
  intro Mb ρ s σ H b s' R e Q q
  simp only [fT, Option.bind_eq_some_iff] at e
  obtain ⟨⟨d, s1⟩, e1, e2⟩ := e
  split at e2
  · rename_i b' hd
    cases e2
    have hd' : d = .bl b := hd
    subst hd'
    refine h Mb ρ s σ H _ _ R e1 _ fun v H1 g1 w1 r1 => ⟨b, ?_, q H1 g1 w1⟩
    simpa only [Rep] using r1
  · cases e2
theorem xt_cmp {op : CmpOp} {r : R2} {f : D → D → Option D} (ho : CmpD W X op r f) (ha : XW W X a fa) (hb : XW W X b fb) (hm : behindInMarks op b = false := by first | exact nomark _ (by decide) (by decide) | rfl) : XT W X (.Compare a [op] [b] pos) (fT (fBin f fa fb)) :=
  ⟨pt_cmpR ho.p ha.p hb.p hm, dt_test (de_bin ho.d ha.d hb.d)⟩
/-- a < b < c -/
def fChain {S : Type} (f g : D → D → Option D) (fa fb fc : EF S) : EF S := fun ρ s => (fa ρ s).bind fun p => (fb ρ p.2).bind fun q => match f p.1 q.1 with
  | some (.bl true) => (fc ρ q.2).bind fun r => (g q.1 r.1).map fun d => (d, r.2)
  | some (.bl false) => some (.bl false, q.2)
  | _ => none
theorem de_chain {op op' : CmpOp} {r r' : R2} {f g : D → D → Option D} (ho : CmpD W X op r f) (ho' : CmpD W X op' r' g) (ha : DW W ta fa) (hb : DW W tb fb) (hc : DW W tc fc) : DE W (tChain r r' ta tb tc) (fChain f g fa fb fc) := by
  intro Mb ρ s σ H d s' R e Q q
  simp only [fChain, Option.bind_eq_some_iff] at e
  obtain ⟨⟨dx, s1⟩, e1, ⟨dy, s2⟩, e2, e3⟩ := e
  refine ha Mb ρ s σ H dx s1 R e1 _ fun x H1 g1 w1 r1 => ?_
  have R1 := R.gr g1 w1
  refine hb Mb ρ s1 σ H1 dy s2 R1 e2 _ fun y H2 g2 w2 r2 => ?_
  have R2 := R1.gr g2 w2
  have r1' := r1.gr R.watM g2
  split at e3
  · rename_i hf
    refine ho.d _ H2 x y dx dy _ R2.mok r1' r2 hf _ fun v H3 x3 r3 => ⟨true, by simpa only [Rep] using r3, ?_⟩
    simp only [Option.bind_eq_some_iff, Option.map_eq_some_iff, Prod.mk.injEq] at e3
    obtain ⟨⟨dz, s3⟩, e4, d', e5, rfl, rfl⟩ := e3
    have R3 := R2.gr x3.gr (W.ex x3 w2)
    refine iteT ?_
    refine hc Mb ρ s2 σ H3 dz s3 R3 e4 _ fun z H4 g4 w4 r4 => ?_
    have R4 := R3.gr g4 w4
    exact ho'.d _ H4 y z dy dz d' R4.mok ((r2.gr R.watM x3.gr).gr R.watM g4) r4 e5 Q fun v H5 x5 r5 => q v H5 ((((g1.trans g2).trans x3.gr).trans g4).trans x5.gr) (W.ex x5 w4) r5
  · rename_i hf
    cases e3
    refine ho.d _ H2 x y dx dy _ R2.mok r1' r2 hf _ fun v H3 x3 r3 => ⟨false, by simpa only [Rep] using r3, ?_⟩
    exact iteF (q _ H3 ((g1.trans g2).trans x3.gr) (W.ex x3 w2) rep_bl)
  · cases e3
theorem xe_chain {op op' : CmpOp} {r r' : R2} {f g : D → D → Option D} (ho : CmpD W X op r f) (ho' : CmpD W X op' r' g) (ha : XW W X a fa) (hb : XW W X b fb) (hc : XW W X c fc)
    (hm : lastMarks [op, op'] [b, c] = false := by with_unfolding_all rfl) : XE W X (.Compare a [op, op'] [b, c] pos) (fChain f g fa fb fc) :=
  ⟨pe_chain ho.p ho'.p ha.p hb.p hc.p hm, de_chain ho ho' ha.d hb.d hc.d⟩
theorem xt_chain {op op' : CmpOp} {r r' : R2} {f g : D → D → Option D} (ho : CmpD W X op r f) (ho' : CmpD W X op' r' g) (ha : XW W X a fa) (hb : XW W X b fb) (hc : XW W X c fc)
    (hm : lastMarks [op, op'] [b, c] = false := by with_unfolding_all rfl) : XT W X (.Compare a [op, op'] [b, c] pos) (fT (fChain f g fa fb fc)) :=
  ⟨pt_chain ho.p ho'.p ha.p hb.p hc.p hm, dt_test (de_chain ho ho' ha.d hb.d hc.d)⟩
/-! ### truth, and, or, not -/
def fTru {S : Type} (f : EF S) : TF S := fun ρ s => (f ρ s).bind fun p => (dTru p.1).map fun b => (b, p.2)
theorem xt_truth (ha : XW W X a fa) (he : ∀ whole, isTrue a X.env whole = (do let v ← whole; standAt a.pos; holding [v] (truthy v)) := by intro _; rfl) : XT W X a (fTru fa) := by
  refine ⟨pt_truth ha.p he, fun Mb ρ s σ H b s' R e Q q => ?_⟩
  simp only [fTru, Option.bind_eq_some_iff, Option.map_eq_some_iff, Prod.mk.injEq] at e
  obtain ⟨⟨d, s1⟩, e1, b', e2, rfl, rfl⟩ := e
  exact ha.d Mb ρ s σ H d s1 R e1 _ fun v H1 g1 w1 r1 => ⟨b', tru_of r1 e2, q H1 g1 w1⟩
inductive XB (W : Wd) (X : Cx) (e : Expr) (f : TF W.S) : Prop where
  | mk {t : TT} (p : PW X e t) (d : DT W t f) : XB W X e f
theorem XB.p {f : TF W.S} (h : XB W X e f) : PW X e (tOfT W f) := by
  obtain ⟨p, d⟩ := h
  exact ⟨fun whole pins s σ H Q I ⟨Mb, ρ, s0, x, s', R, e, q⟩ => p.run whole pins s σ H Q I (d Mb ρ s0 σ H x s' R e Q q)⟩
theorem XB.d {f : TF W.S} (_ : XB W X e f) : DT W (tOfT W f) f := fun Mb ρ s σ H x s' R e Q q => ⟨Mb, ρ, s, x, s', R, e, q⟩
variable {tA tB' : TT} {fA fB : TF W.S}
theorem XB.t (h : XB W X e fA) : XT W X e fA := ⟨h.p.pt, h.d⟩
def fAndT {S : Type} (fa fb : TF S) : TF S := fun ρ s => (fa ρ s).bind fun p => if p.1 = true then fb ρ p.2 else some (false, p.2)
def fOrT {S : Type} (fa fb : TF S) : TF S := fun ρ s => (fa ρ s).bind fun p => if p.1 = true then some (true, p.2) else fb ρ p.2
def fNotT {S : Type} (fa : TF S) : TF S := fun ρ s => (fa ρ s).map fun p => (!p.1, p.2)
theorem xb_and1 (ha : XT W X a fA) : XB W X (.BoolOp .And [a] pos) fA := ⟨pw_and1 ha.p, ha.d⟩
theorem xb_or1 (ha : XT W X a fA) : XB W X (.BoolOp .Or [a] pos) fA := ⟨pw_or1 ha.p, ha.d⟩
theorem xb_and (ha : XT W X a fA) (hb : XB W X (.BoolOp .And (b :: rest) pos) fB) : XB W X (.BoolOp .And (a :: b :: rest) pos) (fAndT fA fB) := by
  refine ⟨pw_and ha.p hb.p, fun Mb ρ s σ H b s' R e Q q => ?_⟩
  simp only [fAndT, Option.bind_eq_some_iff] at e
  obtain ⟨⟨c, s1⟩, e1, e2⟩ := e
  refine ha.d Mb ρ s σ H c s1 R e1 _ fun H1 g1 w1 => ?_
  cases c with
  | true =>
    refine iteT ?_
    exact hb.d Mb ρ s1 σ H1 b s' (R.gr g1 w1) (by simpa using e2) _ fun H2 g2 w2 => q H2 (g1.trans g2) w2
  | false =>
    simp at e2
    obtain ⟨rfl, rfl⟩ := e2
    exact iteF (q H1 g1 w1)
theorem xb_or (ha : XT W X a fA) (hb : XB W X (.BoolOp .Or (b :: rest) pos) fB) : XB W X (.BoolOp .Or (a :: b :: rest) pos) (fOrT fA fB) := by
  refine ⟨pw_or ha.p hb.p, fun Mb ρ s σ H b s' R e Q q => ?_⟩
  simp only [fOrT, Option.bind_eq_some_iff] at e
  obtain ⟨⟨c, s1⟩, e1, e2⟩ := e
  refine ha.d Mb ρ s σ H c s1 R e1 _ fun H1 g1 w1 => ?_
  cases c with
  | false =>
    refine iteF ?_
    exact hb.d Mb ρ s1 σ H1 b s' (R.gr g1 w1) (by simpa using e2) _ fun H2 g2 w2 => q H2 (g1.trans g2) w2
  | true =>
    simp at e2
    obtain ⟨rfl, rfl⟩ := e2
    exact iteT (q H1 g1 w1)
theorem xt_not (ha : XT W X a fA) : XT W X (.UnaryOp .Not a pos) (fNotT fA) := by
  refine ⟨pt_not ha.p, fun Mb ρ s σ H b s' R e Q q => ?_⟩
  simp only [fNotT, Option.map_eq_some_iff, Prod.mk.injEq] at e
  obtain ⟨⟨c, s1⟩, e1, rfl, rfl⟩ := e
  exact ha.d Mb ρ s σ H c s1 R e1 _ fun H1 g1 w1 => q H1 g1 w1
/-- as values, of bools -/
def fAndV {S : Type} (fa fb : EF S) : EF S := fun ρ s => (fa ρ s).bind fun p => match p.1 with
  | .bl true => fb ρ p.2
  | .bl false => some (.bl false, p.2)
  | _ => none
def fOrV {S : Type} (fa fb : EF S) : EF S := fun ρ s => (fa ρ s).bind fun p => match p.1 with
  | .bl true => some (.bl true, p.2)
  | .bl false => fb ρ p.2
  | _ => none
def fNotV {S : Type} (fa : EF S) : EF S := fun ρ s => (fa ρ s).bind fun p => match p.1 with
  | .bl b => some (.bl !b, p.2)
  | _ => none
theorem xe_one {op : PySem.BoolOp} (ha : XE W X a fa) : XE W X (.BoolOp op [a] pos) fa := ⟨pe_one ha.p, ha.d⟩
theorem xe_and (ha : XE W X a fa) (hb : XE W X (.BoolOp .And (b :: rest) pos) fb) : XE W X (.BoolOp .And (a :: b :: rest) pos) (fAndV fa fb) := by
  refine ⟨pe_and ha.p hb.p, fun Mb ρ s σ H d s' R e Q q => ?_⟩
  simp only [fAndV, Option.bind_eq_some_iff] at e
  obtain ⟨⟨c, s1⟩, e1, e2⟩ := e
  refine ha.d Mb ρ s σ H c s1 R e1 _ fun v H1 g1 w1 r1 => ?_
  split at e2
  · rename_i hc
    have hc' : c = .bl true := hc
    subst hc'
    refine ⟨true, by simpa only [Rep] using r1, iteT ?_⟩
    exact hb.d Mb ρ s1 σ H1 d s' (R.gr g1 w1) e2 _ fun v H2 g2 w2 r2 => q v H2 (g1.trans g2) w2 r2
  · rename_i hc
    have hc' : c = .bl false := hc
    subst hc'
    cases e2
    exact ⟨false, by simpa only [Rep] using r1, iteF (q _ H1 g1 w1 rep_bl)⟩
  · cases e2
theorem xe_or (ha : XE W X a fa) (hb : XE W X (.BoolOp .Or (b :: rest) pos) fb) : XE W X (.BoolOp .Or (a :: b :: rest) pos) (fOrV fa fb) := by
  refine ⟨pe_or ha.p hb.p, fun Mb ρ s σ H d s' R e Q q => ?_⟩
  simp only [fOrV, Option.bind_eq_some_iff] at e
  obtain ⟨⟨c, s1⟩, e1, e2⟩ := e
  refine ha.d Mb ρ s σ H c s1 R e1 _ fun v H1 g1 w1 r1 => ?_
  split at e2
  · rename_i hc
    have hc' : c = .bl true := hc
    subst hc'
    cases e2
    exact ⟨true, by simpa only [Rep] using r1, iteT (q _ H1 g1 w1 rep_bl)⟩
  · rename_i hc
    have hc' : c = .bl false := hc
    subst hc'
    refine ⟨false, by simpa only [Rep] using r1, iteF ?_⟩
    exact hb.d Mb ρ s1 σ H1 d s' (R.gr g1 w1) e2 _ fun v H2 g2 w2 r2 => q v H2 (g1.trans g2) w2 r2
  · cases e2
theorem xe_not (ha : XE W X a fa) : XE W X (.UnaryOp .Not a pos) (fNotV fa) := by
  refine ⟨pe_not ha.p, fun Mb ρ s σ H d s' R e Q q => ?_⟩
  simp only [fNotV, Option.bind_eq_some_iff] at e
  obtain ⟨⟨c, s1⟩, e1, e2⟩ := e
  refine ha.d Mb ρ s σ H c s1 R e1 _ fun v H1 g1 w1 r1 => ?_
  split at e2
  · rename_i b hc
    have hc' : c = .bl b := hc
    subst hc'
    cases e2
    exact ⟨b, by simpa only [Rep] using r1, q _ H1 g1 w1 rep_bl⟩
  · cases e2
/-! ### subscripts, slices -/
theorem xe_ix (ha : XW W X a fa) (hb : XW W X b fb) (hs : PlainIx b := by exact fun _ _ => rfl) : XE W X (.Subscript a b pos) (fBin dItem fa fb) := ⟨pe_ix ix_seq ha.p hb.p hs, de_bin od_item ha.d hb.d⟩
/-- a bound of a slice -/
abbrev OF (S : Type) := List SV → S → Option (Option Int × S)
def DO (W : Wd) (t : TO) (f : OF W.S) : Prop := ∀ (Mb : Addr → Prop) (ρ : List SV) (s : W.S) (σ : L2.St) (H : Hp) (o : Option Int) (s' : W.S), Rel W Mb ρ s σ H → f ρ s = some (o, s') → ∀ Q : Option Int → Hp → Prop, (∀ H', Gr W H H' → W.rel (MO Mb ρ σ) s' H' → Q o H') → t σ H Q
inductive XO (W : Wd) (X : Cx) (e : Option Expr) (f : OF W.S) : Prop where
  | mk {t : TO} (p : PO X e t) (d : DO W t f) : XO W X e f
def tOfO (W : Wd) (f : OF W.S) : TO := fun σ H Q => ∃ (Mb : Addr → Prop) (ρ : List SV) (s : W.S) (b : Option Int) (s' : W.S), Rel W Mb ρ s σ H ∧ f ρ s = some (b, s') ∧ ∀ H', Gr W H H' → W.rel (MO Mb ρ σ) s' H' → Q b H'
theorem XO.p {e : Option Expr} {f : OF W.S} (h : XO W X e f) : PO X e (tOfO W f) := by
  obtain ⟨p, d⟩ := h
  exact ⟨fun pins s σ H Q I ⟨Mb, ρ, s0, x, s', R, e, q⟩ => p.run pins s σ H Q I (d Mb ρ s0 σ H x s' R e Q q)⟩
theorem XO.d {e : Option Expr} {f : OF W.S} (_ : XO W X e f) : DO W (tOfO W f) f := fun Mb ρ s σ H x s' R e Q q => ⟨Mb, ρ, s, x, s', R, e, q⟩
def oNo {S : Type} : OF S := fun _ s => some (none, s)
def oSome {S : Type} (f : EF S) : OF S := fun ρ s => (f ρ s).bind fun p => match p.1 with
  | .int i => some (some i, p.2)
  | _ => none
theorem xo_no : XO W X none oNo := ⟨po_none, fun Mb ρ s σ H o s' R e Q q => by
  cases e
  exact q H .refl R.world⟩
theorem xo_some (ha : XW W X a fa) : XO W X (some a) (oSome fa) := by
  refine ⟨po_some ha.p, fun Mb ρ s σ H o s' R e Q q => ?_⟩
  simp only [oSome, Option.bind_eq_some_iff] at e
  obtain ⟨⟨d, s1⟩, e1, e2⟩ := e
  split at e2
  · rename_i i hd
    have hd' : d = .int i := hd
    subst hd'
    cases e2
    exact ha.d Mb ρ s σ H _ _ R e1 _ fun v H1 g1 w1 r1 => ⟨i, repw_int r1, q H1 g1 w1⟩
  · cases e2
def fSl {S : Type} (fa : EF S) (fl fh : OF S) : EF S := fun ρ s => (fa ρ s).bind fun p => (fl ρ p.2).bind fun q => (fh ρ q.2).bind fun r => (dSlice p.1 q.1 r.1).map fun d => (d, r.2)
theorem cut_rep {M : Addr → Prop} {H : Hp} {ds : List D} {vs : List V} {lo hi : Option Int} (l : RepL M H ds vs) : RepL M H (dCut ds lo hi) (cutV vs lo hi) := by
  unfold dCut cutV
  rw [l.length]
  exact (l.drop _).take _
theorem cut_all {α : Type} {xs : List α} {lo hi : Option Int} (h : HT.sIx xs.length 0 lo = 0 ∧ HT.sIx xs.length xs.length hi = xs.length) : (xs.drop (HT.sIx xs.length 0 lo)).take (HT.sIx xs.length xs.length hi - HT.sIx xs.length 0 lo) = xs := by
  rw [h.1, h.2]
  simp
theorem xe_sl {lo hi : Option Expr} {p2 : Pos} {fl fh : OF W.S} (ha : XW W X a fa) (hl : XO W X lo fl) (hh : XO W X hi fh) : XE W X (.Subscript a (.Slice lo hi none p2) pos) (fSl fa fl fh) := by
  refine ⟨pe_slice sl_tupA ha.p hl.p hh.p, fun Mb ρ s σ H d s' R e Q q => ?_⟩
  simp only [fSl, Option.bind_eq_some_iff, Option.map_eq_some_iff, Prod.mk.injEq] at e
  obtain ⟨⟨dx, s1⟩, e1, ⟨l, s2⟩, e2, ⟨u, s3⟩, e3, d', e4, rfl, rfl⟩ := e
  refine ha.d Mb ρ s σ H dx s1 R e1 _ fun x H1 g1 w1 r1 => ?_
  have R1 := R.gr g1 w1
  refine hl.d Mb ρ s1 σ H1 l s2 R1 e2 _ fun H2 g2 w2 => ?_
  have R2 := R1.gr g2 w2
  refine hh.d Mb ρ s2 σ H2 u s3 R2 e3 _ fun H3 g3 w3 => ?_
  have R3 := R2.gr g3 w3
  have r3 := (r1.gr R.watM g2).gr R.watM g3
  have gg := (g1.trans g2).trans g3
  unfold dSlice at e4
  split at e4
  · rename_i xs hx
    have hx' : dx = .tup xs := hx
    subst hx'
    cases e4
    obtain ⟨p, vs, rfl, n, h, lr⟩ := repw_tup r3
    refine ⟨p, vs, rfl, .of h, fun z => ?_, fun z => ?_⟩
    · have c := cut_rep (lo := l) (hi := u) lr
      unfold cutV at c
      rw [cut_all z] at c
      exact q _ H3 gg w3 (rep_tup n h c)
    · exact new_tup R3.mok (cut_rep lr) fun v H4 x4 r4 => q v H4 (gg.trans x4.gr) (W.ex x4 w3) r4
  · cases e4
end
end K7
end
section
set_option maxRecDepth 100000
/-! K76, part d: what is walked, targets, comprehensions. -/
namespace K7
open PySem L2

/-! ### the relation behind stores -/
section
variable {W : Wd} {Mb Mb' : Addr → Prop} {ρ ρ' : List SV} {s s' : W.S} {σ σ' : L2.St} {H H' : Hp}
theorem OwnIx.set_im {i j : Nat} {d : D} {v : V} {a : Addr} (h : OwnIx (ρ.set j (.im d)) (σ.set j (some v)) i a) : OwnIx ρ σ i a := by
  obtain ⟨⟨x, h1, h2⟩, h3⟩ := h
  by_cases e : j = i
  · subst e
    by_cases hl : j < ρ.length
    · rw [List.getElem?_set_self hl] at h1
      cases h1
      cases h2
    · rw [List.getElem?_eq_none (by simpa using hl)] at h1
      cases h1
  · rw [List.getElem?_set_ne e] at h1 h3
    exact ⟨⟨x, h1, h2⟩, h3⟩
theorem SlotR.step {M M' : Addr → Prop} {x : SV} {o : Option V} (g : ∀ a o, ¬ M a → H a = some o → H' a = some o) (m : ∀ a, M' a → M a ∨ H a = none) (go : ∀ a, x.own = true → o = some (.ref a) → H' a = H a) (q : SlotR M H x o) : SlotR M' H' x o := by
  cases x with
  | un => exact True.intro
  | im d =>
    obtain ⟨v, e, r⟩ := q
    exact ⟨v, e, r.step g m⟩
  | ow ds =>
    obtain ⟨a, vs, e, h, r⟩ := q
    exact ⟨a, vs, e, by rw [go a rfl e]; exact h, r.step g m⟩
  | od ks =>
    obtain ⟨a, e, h⟩ := q
    exact ⟨a, e, by rw [go a rfl e]; exact h⟩
/-- a slot is stored -/
theorem Rel.set_im (R : Rel W Mb ρ s σ H) {j : Nat} {d : D} {v : V} (r : Rep (MO Mb ρ σ) H d v) : Rel W Mb (ρ.set j (.im d)) s (σ.set j (some v)) H := by
  have hm : ∀ a, MO Mb (ρ.set j (.im d)) (σ.set j (some v)) a → MO Mb ρ σ a ∨ H a = none := fun a h => .inl (h.elim .inl fun ⟨i, h⟩ => .inr ⟨i, h.set_im⟩)
  refine ⟨by rw [List.length_set, List.length_set]; exact R.len, R.sub, R.trk, fun a ⟨i, h⟩ => R.ofr a ⟨i, h.set_im⟩, fun i k a h1 h2 => R.inj i k a h1.set_im h2.set_im, fun i x o hx hs => ?_, W.more _ _ _ _ hm R.world⟩
  by_cases e : j = i
  · subst e
    by_cases hl : j < ρ.length
    · rw [List.getElem?_set_self hl] at hx
      rw [List.getElem?_set_self (by rw [R.len]; exact hl)] at hs
      cases hx
      cases hs
      exact ⟨v, rfl, r.more hm⟩
    · rw [List.getElem?_eq_none (by simpa using hl)] at hx
      cases hx
  · rw [List.getElem?_set_ne e] at hx hs
    exact (R.slot i x o hx hs).step (fun _ _ _ h => h) hm fun _ _ _ => rfl
/-- the base grows by a tracked address that no slot owns -/
theorem Rel.base (R : Rel W Mb ρ s σ H) {p : Addr} {o : HO} (hp : H p = none) : Rel W (fun a => Mb a ∨ a = p) ρ s σ (upd H p o) := by
  have hm : ∀ a, MO (fun a => Mb a ∨ a = p) ρ σ a → MO Mb ρ σ a ∨ H a = none := fun a h => by
    rcases h with (h | h) | h
    · exact .inl (.inl h)
    · exact .inr (by rw [h]; exact hp)
    · exact .inl (.inr h)
  have np : ∀ {a}, H a ≠ none → a ≠ p := fun n e => n (by rw [e]; exact hp)
  refine ⟨R.len, fun a z => .inl (R.sub a z), fun a h => ?_, fun a h z => ?_, R.inj, fun i x o' hx hs => ?_, ?_⟩
  · rcases h with h | h
    · rw [upd_ne (np (R.trk a h))]
      exact R.trk a h
    · rw [h, upd_same]
      intro z
      cases z
  · rcases z with z | z
    · exact R.ofr a h z
    · exact R.ownT h (by rw [z]; exact hp)
  · refine (R.slot i x o' hx hs).step (fun a u _ e => by rw [upd_ne (ne_of_none e hp)]; exact e) hm fun a ho e => ?_
    exact upd_ne (np (R.ownT ⟨i, ⟨x, hx, ho⟩, by rw [hs, e]⟩))
  · exact W.grow _ s H _ (fun a u _ e => by rw [upd_ne (ne_of_none e hp)]; exact e) (W.more _ _ _ _ hm R.world)
/-- what a slot's own object may become -/
def OwnO (M : Addr → Prop) (H : Hp) : SV → HO → Prop
  | .ow ds, o => ∃ vs, o = .lst vs ∧ RepL M H ds vs
  | .od ks, o => o = .dK (dkv ks)
  | _, _ => False
theorem OwnO.own {M : Addr → Prop} {x : SV} {o : HO} (h : OwnO M H x o) : x.own = true := by
  cases x with
  | un => exact h.elim
  | im d => exact h.elim
  | ow ds => rfl
  | od ks => rfl
theorem OwnO.slot {M M' : Addr → Prop} {x : SV} {o : HO} {p : Addr} (h : OwnO M H x o) (g : ∀ a o, ¬ M a → H a = some o → H' a = some o) (m : ∀ a, M' a → M a ∨ H a = none) (hp : H' p = some o) : SlotR M' H' x (some (.ref p)) := by
  cases x with
  | un => exact h.elim
  | im d => exact h.elim
  | ow ds =>
    obtain ⟨vs, rfl, r⟩ := h
    exact ⟨p, vs, rfl, hp, r.step g m⟩
  | od ks =>
    have e : o = .dK (dkv ks) := h
    subst e
    exact ⟨p, rfl, hp⟩
/-- a slot's own object changes -/
theorem Rel.mut (R : Rel W Mb ρ s σ H) {j : Nat} {p : Addr} {x : SV} {o : HO} (hj : OwnIx ρ σ j p) (ho : OwnO (MO Mb ρ σ) H x o) : Rel W Mb (ρ.set j x) s σ (upd H p o) := by
  have hjl : j < ρ.length := by
    obtain ⟨⟨y, h1, _⟩, _⟩ := hj
    exact (List.getElem?_eq_some_iff.mp h1).1
  have hj' : OwnIx (ρ.set j x) σ j p := ⟨⟨x, List.getElem?_set_self hjl, ho.own⟩, hj.2⟩
  have back : ∀ {i a}, OwnIx (ρ.set j x) σ i a → OwnIx ρ σ i a := fun {i a} h => by
    by_cases e : j = i
    · subst e
      have ea : some (some (V.ref p)) = some (some (V.ref a)) := hj.2.symm.trans h.2
      cases ea
      exact hj
    · obtain ⟨⟨y, h1, h2⟩, h3⟩ := h
      rw [List.getElem?_set_ne e] at h1
      exact ⟨⟨y, h1, h2⟩, h3⟩
  have fwd : ∀ {i a}, OwnIx ρ σ i a → OwnIx (ρ.set j x) σ i a := fun {i a} h => by
    by_cases e : j = i
    · subst e
      have ea : some (some (V.ref p)) = some (some (V.ref a)) := hj.2.symm.trans h.2
      cases ea
      exact hj'
    · obtain ⟨⟨y, h1, h2⟩, h3⟩ := h
      exact ⟨⟨y, by rw [List.getElem?_set_ne e]; exact h1, h2⟩, h3⟩
  have hM : MO Mb (ρ.set j x) σ = MO Mb ρ σ := by
    funext a
    exact propext ⟨fun h => h.elim .inl fun ⟨i, h⟩ => .inr ⟨i, back h⟩, fun h => h.elim .inl fun ⟨i, h⟩ => .inr ⟨i, fwd h⟩⟩
  have hpM : MO Mb ρ σ p := .inr ⟨j, hj⟩
  have hpw : ¬ W.at_ p := R.ownW ⟨j, hj⟩
  have g : ∀ a u, ¬ MO Mb ρ σ a → H a = some u → upd H p o a = some u := fun a u n e => by
    rw [upd_ne (fun z => n (by rw [z]; exact hpM))]
    exact e
  refine ⟨by rw [List.length_set]; exact R.len, R.sub, fun a h => ?_, fun a ⟨i, h⟩ => R.ofr a ⟨i, back h⟩, fun i k a h1 h2 => R.inj i k a (back h1) (back h2), fun i y o' hx hs => ?_, ?_⟩
  · by_cases e : a = p
    · rw [e, upd_same]
      intro z
      cases z
    · rw [upd_ne e]
      exact R.trk a h
  · rw [hM]
    by_cases e : j = i
    · subst e
      rw [List.getElem?_set_self hjl] at hx
      cases hx
      rw [hj.2] at hs
      cases hs
      exact ho.slot g (fun _ z => .inl z) upd_same
    · rw [List.getElem?_set_ne e] at hx
      refine (R.slot i y o' hx hs).step g (fun _ z => .inl z) fun a hy ea => upd_ne fun z => e ?_
      subst z
      exact R.inj j i a hj ⟨⟨y, hx, hy⟩, by rw [hs, ea]⟩
  · rw [hM]
    refine W.grow _ s H _ (fun a u n e => ?_) R.world
    rw [upd_ne (fun z => n.elim (fun q => hpw (by rw [← z]; exact q)) (fun q => q (by rw [z]; exact hpM)))]
    exact e
/-- a slot gets a new object of its own -/
theorem Rel.newOwn (R : Rel W Mb ρ s σ H) {j : Nat} {p : Addr} {x : SV} {o : HO} (hjl : j < ρ.length) (hp : H p = none) (ho : OwnO (MO Mb ρ σ) H x o) : Rel W Mb (ρ.set j x) s (σ.set j (some (.ref p))) (upd H p o) := by
  have hls : j < σ.length := by rw [R.len]; exact hjl
  have np : ∀ {a}, H a ≠ none → a ≠ p := fun n e => n (by rw [e]; exact hp)
  have back : ∀ {i a}, OwnIx (ρ.set j x) (σ.set j (some (.ref p))) i a → (i = j ∧ a = p) ∨ (i ≠ j ∧ OwnIx ρ σ i a) := fun {i a} h => by
    obtain ⟨⟨y, h1, h2⟩, h3⟩ := h
    by_cases e : j = i
    · subst e
      rw [List.getElem?_set_self hls] at h3
      cases h3
      exact .inl ⟨rfl, rfl⟩
    · rw [List.getElem?_set_ne e] at h1 h3
      exact .inr ⟨Ne.symm e, ⟨y, h1, h2⟩, h3⟩
  have hm : ∀ a, MO Mb (ρ.set j x) (σ.set j (some (.ref p))) a → MO Mb ρ σ a ∨ H a = none := fun a h => h.elim (fun z => .inl (.inl z)) fun ⟨i, h⟩ => (back h).elim (fun z => .inr (by rw [z.2]; exact hp)) fun z => .inl (.inr ⟨i, z.2⟩)
  have g : ∀ a u, H a = some u → upd H p o a = some u := fun a u e => by rw [upd_ne (ne_of_none e hp)]; exact e
  refine ⟨by rw [List.length_set, List.length_set]; exact R.len, R.sub, fun a h => by rw [upd_ne (np (R.trk a h))]; exact R.trk a h, fun a ⟨i, h⟩ => ?_, fun i k a h1 h2 => ?_, fun i y o' hx hs => ?_, ?_⟩
  · rcases back h with ⟨_, e⟩ | ⟨_, h⟩
    · rw [e]
      exact fun z => R.trk p z hp
    · exact R.ofr a ⟨i, h⟩
  · rcases back h1 with ⟨e1, e2⟩ | ⟨e1, h1⟩
    · rcases back h2 with ⟨e3, e4⟩ | ⟨e3, h2⟩
      · rw [e1, e3]
      · exact absurd hp (by rw [← e2]; exact R.ownT ⟨k, h2⟩)
    · rcases back h2 with ⟨e3, e4⟩ | ⟨e3, h2⟩
      · exact absurd hp (by rw [← e4]; exact R.ownT ⟨i, h1⟩)
      · exact R.inj i k a h1 h2
  · by_cases e : j = i
    · subst e
      rw [List.getElem?_set_self hjl] at hx
      rw [List.getElem?_set_self hls] at hs
      cases hx
      cases hs
      exact ho.slot (fun a u _ e => g a u e) hm upd_same
    · rw [List.getElem?_set_ne e] at hx hs
      exact (R.slot i y o' hx hs).step (fun a u _ e => g a u e) hm fun a hy ea => upd_ne (np (R.ownT ⟨i, ⟨y, hx, hy⟩, by rw [hs, ea]⟩))
  · exact W.grow _ s H _ (fun a u _ e => g a u e) (W.more _ _ _ _ hm R.world)
end
end K7
end
section
set_option maxRecDepth 100000
/-! K76, part e: what is walked, targets, comprehensions. -/
namespace K7
open PySem L2

section
variable {W : Wd} {Mb Mb' : Addr → Prop} {ρ ρ' : List SV} {s s' : W.S} {σ σ' : L2.St} {H H' : Hp}
/-! ### forgetting slots -/
def notOwn (ρ : List SV) (v : Nat) : Bool := match ρ[v]? with
  | some x => !x.own
  | none => true
def wipeS (ρ : List SV) : List Nat → List SV
  | [] => ρ
  | v :: vs => (wipeS ρ vs).set v .un
theorem Rel.forget (R : Rel W Mb ρ s σ H) {j : Nat} (hn : notOwn ρ j = true) : Rel W Mb (ρ.set j .un) s (σ.set j none) H ∧ MO Mb (ρ.set j .un) (σ.set j none) = MO Mb ρ σ := by
  have back : ∀ {i a}, OwnIx (ρ.set j .un) (σ.set j none) i a → OwnIx ρ σ i a := fun {i a} ⟨⟨x, h1, h2⟩, h3⟩ => by
    by_cases e : j = i
    · subst e
      by_cases hl : j < σ.length
      · rw [List.getElem?_set_self hl] at h3
        cases h3
      · rw [List.getElem?_eq_none (by simpa using hl)] at h3
        cases h3
    · rw [List.getElem?_set_ne e] at h1 h3
      exact ⟨⟨x, h1, h2⟩, h3⟩
  have fwd : ∀ {i a}, OwnIx ρ σ i a → OwnIx (ρ.set j .un) (σ.set j none) i a := fun {i a} ⟨⟨x, h1, h2⟩, h3⟩ => by
    have e : j ≠ i := fun e => by
      subst e
      have hn' : (!x.own) = true := by simpa [notOwn, h1] using hn
      rw [h2] at hn'
      cases hn'
    exact ⟨⟨x, by rw [List.getElem?_set_ne e]; exact h1, h2⟩, by rw [List.getElem?_set_ne e]; exact h3⟩
  have hM : MO Mb (ρ.set j .un) (σ.set j none) = MO Mb ρ σ := by
    funext a
    exact propext ⟨fun h => h.elim .inl fun ⟨i, h⟩ => .inr ⟨i, back h⟩, fun h => h.elim .inl fun ⟨i, h⟩ => .inr ⟨i, fwd h⟩⟩
  refine ⟨⟨by rw [List.length_set, List.length_set]; exact R.len, R.sub, R.trk, fun a ⟨i, h⟩ => R.ofr a ⟨i, back h⟩, fun i k a h1 h2 => R.inj i k a (back h1) (back h2), fun i y o hx hs => ?_, by rw [hM]; exact R.world⟩, hM⟩
  by_cases e : j = i
  · subst e
    by_cases hl : j < ρ.length
    · rw [List.getElem?_set_self hl] at hx
      cases hx
      exact True.intro
    · rw [List.getElem?_eq_none (by simpa using hl)] at hx
      cases hx
  · rw [List.getElem?_set_ne e] at hx hs
    rw [hM]
    exact R.slot i y o hx hs
theorem notOwn_wipe {v : Nat} (h : notOwn ρ v = true) : ∀ vs : List Nat, notOwn (wipeS ρ vs) v = true
  | [] => h
  | u :: vs => by
    unfold wipeS notOwn
    by_cases e : u = v
    · subst e
      by_cases hl : u < (wipeS ρ vs).length
      · rw [List.getElem?_set_self hl]
        rfl
      · rw [List.getElem?_eq_none (by simpa using hl)]
    · rw [List.getElem?_set_ne e]
      exact notOwn_wipe h vs
theorem Rel.wipe (R : Rel W Mb ρ s σ H) : ∀ {vs : List Nat}, vs.all (notOwn ρ) = true → Rel W Mb (wipeS ρ vs) s (wipe σ vs) H ∧ MO Mb (wipeS ρ vs) (wipe σ vs) = MO Mb ρ σ
  | [], _ => ⟨R, rfl⟩
  | v :: vs, h => by
    rw [List.all_cons, Bool.and_eq_true] at h
    obtain ⟨R1, e1⟩ := Rel.wipe R h.2
    obtain ⟨R2, e2⟩ := R1.forget (notOwn_wipe h.1 vs)
    exact ⟨R2, e2.trans e1⟩
theorem wipe_get {σ : L2.St} : ∀ {vs : List Nat} {i : Nat}, (L2.wipe σ vs)[i]? = if i ∈ vs then (if i < σ.length then some none else none) else σ[i]?
  | [], i => by simp [L2.wipe]
  | v :: vs, i => by
    unfold L2.wipe
    by_cases e : v = i
    · subst e
      by_cases hl : v < σ.length
      · rw [List.getElem?_set_self (by rw [wipe_length]; exact hl)]
        simp [hl]
      · rw [List.getElem?_eq_none (by simpa [wipe_length] using hl)]
        simp [hl]
    · rw [List.getElem?_set_ne e, wipe_get]
      simp [Ne.symm e]
theorem wipe_same {σ σ' : L2.St} {vs : List Nat} (hl : σ'.length = σ.length) (h : ∀ i, i ∉ vs → σ'[i]? = (L2.wipe σ vs)[i]?) : L2.wipe σ' vs = L2.wipe σ vs := by
  apply List.ext_getElem?
  intro i
  rw [wipe_get]
  by_cases e : i ∈ vs
  · rw [if_pos e, hl, wipe_get, if_pos e]
  · rw [if_neg e, h i e]

/-! ### targets -/
abbrev GF := D → List SV → Option (List SV)
abbrev GFs := List D → List SV → Option (List SV)
structure Tgt (W : Wd) (Mb : Addr → Prop) (js : List Nat) (ρ ρ' : List SV) (s : W.S) (σ σ' : L2.St) (H : Hp) : Prop where
  rel : Rel W Mb ρ' s σ' H
  own : ∀ a, OwnAt ρ' σ' a → OwnAt ρ σ a
  own' : (∀ j ∈ js, notOwn ρ j = true) → ∀ a, OwnAt ρ σ a → OwnAt ρ' σ' a
  out : ∀ i, i ∉ js → σ'[i]? = σ[i]?
  len : σ'.length = σ.length
def DG (W : Wd) (js : List Nat) (t : TG) (f : GF) : Prop := ∀ (Mb : Addr → Prop) (ρ : List SV) (s : W.S) (σ : L2.St) (H : Hp) (v : V) (d : D) (ρ' : List SV), Rel W Mb ρ s σ H → Rep (MO Mb ρ σ) H d v → f d ρ = some ρ' →
  ∀ Q : L2.St → Hp → Prop, (∀ σ', Tgt W Mb js ρ ρ' s σ σ' H → Q σ' H) → t v σ H Q
def DGs (W : Wd) (js : List Nat) (t : TGs) (f : GFs) : Prop := ∀ (Mb : Addr → Prop) (ρ : List SV) (s : W.S) (σ : L2.St) (H : Hp) (vs : List V) (ds : List D) (ρ' : List SV), Rel W Mb ρ s σ H → RepL (MO Mb ρ σ) H ds vs → f ds ρ = some ρ' →
  ∀ Q : L2.St → Hp → Prop, (∀ σ', Tgt W Mb js ρ ρ' s σ σ' H → Q σ' H) → t vs σ H Q
inductive XG (W : Wd) (X : Cx) (e : Expr) (js : List Nat) (f : GF) : Prop where
  | mk {t : TG} (p : PG X e t) (d : DG W js t f) : XG W X e js f
inductive XGs (W : Wd) (X : Cx) (es : List Expr) (js : List Nat) (f : GFs) : Prop where
  | mk {t : TGs} (p : PGs X es t) (d : DGs W js t f) : XGs W X es js f
def tOfG (W : Wd) (js : List Nat) (f : GF) : TG := fun v σ H Q => ∃ (Mb : Addr → Prop) (ρ : List SV) (s : W.S) (d : D) (ρ' : List SV), Rel W Mb ρ s σ H ∧ Rep (MO Mb ρ σ) H d v ∧ f d ρ = some ρ' ∧ ∀ σ', Tgt W Mb js ρ ρ' s σ σ' H → Q σ' H
def tOfGs (W : Wd) (js : List Nat) (f : GFs) : TGs := fun vs σ H Q => ∃ (Mb : Addr → Prop) (ρ : List SV) (s : W.S) (ds : List D) (ρ' : List SV), Rel W Mb ρ s σ H ∧ RepL (MO Mb ρ σ) H ds vs ∧ f ds ρ = some ρ' ∧ ∀ σ', Tgt W Mb js ρ ρ' s σ σ' H → Q σ' H
theorem XG.p {W : Wd} {X : Cx} {e : Expr} {js : List Nat} {f : GF} (h : XG W X e js f) : PG X e (tOfG W js f) := by
  obtain ⟨p, d⟩ := h
  exact ⟨fun pins s σ H v u Q I r ⟨Mb, ρ, s0, x, ρ', R, r0, e, q⟩ => p.run pins s σ H v u Q I r (d Mb ρ s0 σ H v x ρ' R r0 e Q q)⟩
theorem XG.d {W : Wd} {X : Cx} {e : Expr} {js : List Nat} {f : GF} (_ : XG W X e js f) : DG W js (tOfG W js f) f := fun Mb ρ s σ H v x ρ' R r e Q q => ⟨Mb, ρ, s, x, ρ', R, r, e, q⟩
theorem XGs.p {W : Wd} {X : Cx} {es : List Expr} {js : List Nat} {f : GFs} (h : XGs W X es js f) : PGs X es (tOfGs W js f) := by
  obtain ⟨p, d⟩ := h
  exact ⟨fun pins s σ H v u Q I r ⟨Mb, ρ, s0, x, ρ', R, r0, e, q⟩ => p.run pins s σ H v u Q I r (d Mb ρ s0 σ H v x ρ' R r0 e Q q)⟩
theorem XGs.d {W : Wd} {X : Cx} {es : List Expr} {js : List Nat} {f : GFs} (_ : XGs W X es js f) : DGs W js (tOfGs W js f) f := fun Mb ρ s σ H v x ρ' R r e Q q => ⟨Mb, ρ, s, x, ρ', R, r, e, q⟩
theorem OwnIx.keep {i j : Nat} {d : D} {v : V} {a : Addr} (h : OwnIx ρ σ i a) (hj : notOwn ρ j = true) : OwnIx (ρ.set j (.im d)) (σ.set j (some v)) i a := by
  obtain ⟨⟨x, h1, h2⟩, h3⟩ := h
  have e : j ≠ i := fun e => by
    subst e
    have hn' : (!x.own) = true := by simpa [notOwn, h1] using hj
    rw [h2] at hn'
    cases hn'
  exact ⟨⟨x, by rw [List.getElem?_set_ne e]; exact h1, h2⟩, by rw [List.getElem?_set_ne e]; exact h3⟩
theorem notOwn_im {j k : Nat} {d : D} (h : notOwn ρ k = true) : notOwn (ρ.set j (.im d)) k = true := by
  unfold notOwn
  by_cases e : j = k
  · subst e
    by_cases hl : j < ρ.length
    · rw [List.getElem?_set_self hl]
      rfl
    · rw [List.getElem?_eq_none (by simpa using hl)]
  · rw [List.getElem?_set_ne e]
    exact h
def gN (j : Nat) : GF := fun d ρ => some (ρ.set j (.im d))
theorem dg_n {j : Nat} : DG W [j] (gName j) (gN j) := by
  intro Mb ρ s σ H v d ρ' R r e Q q
  cases e
  refine q _ ⟨R.set_im r, fun a ⟨i, h⟩ => ⟨i, h.set_im⟩, fun hj a ⟨i, h⟩ => ⟨i, h.keep (hj j (by simp))⟩, fun i hi => ?_, List.length_set⟩
  rw [List.getElem?_set_ne (by simpa using Ne.symm (by simpa using hi))]
def gsNil : GFs := fun ds ρ => match ds with
  | [] => some ρ
  | _ => none
def gsCons (j : Nat) (f : GFs) : GFs := fun ds ρ => match ds with
  | d :: r => f r (ρ.set j (.im d))
  | _ => none
theorem dgs_nil : DGs W [] gNil gsNil := by
  intro Mb ρ s σ H vs ds ρ' R r e Q q
  cases ds with
  | nil =>
    cases e
    exact ⟨r.inv0, q σ ⟨R, fun _ h => h, fun _ _ h => h, fun _ _ => rfl, rfl⟩⟩
  | cons d ds => cases e
theorem dgs_cons {j : Nat} {t : TGs} {js : List Nat} {f : GFs} (h : DGs W js t f) : DGs W (j :: js) (gCons (gName j) t) (gsCons j f) := by
  intro Mb ρ s σ H vs ds ρ' R r e Q q
  cases ds with
  | nil => cases e
  | cons d ds =>
    obtain ⟨v, r', rfl, r1, r2⟩ := r.inv
    refine ⟨v, r', rfl, ?_⟩
    have hm : ∀ a, MO Mb (ρ.set j (.im d)) (σ.set j (some v)) a → MO Mb ρ σ a ∨ H a = none := fun a h => .inl (h.elim .inl fun ⟨i, h⟩ => .inr ⟨i, h.set_im⟩)
    refine h Mb _ s _ H r' ds ρ' (R.set_im r1) (r2.more hm) e Q fun σ' T => q σ' ⟨T.rel, fun a ha => ?_, fun hj a ⟨i, ha⟩ => ?_, fun i hi => ?_, T.len.trans List.length_set⟩
    · obtain ⟨i, h⟩ := T.own a ha
      exact ⟨i, h.set_im⟩
    · exact T.own' (fun k hk => notOwn_im (hj k (List.mem_cons_of_mem _ hk))) a ⟨i, ha.keep (hj j List.mem_cons_self)⟩
    · rw [T.out i (fun z => hi (List.mem_cons_of_mem _ z)), List.getElem?_set_ne (fun z => hi (by rw [z]; exact List.mem_cons_self))]
def gT (n : Nat) (f : GFs) : GF := fun d ρ => match d with
  | .tup ds => if ds.length = n then f ds ρ else none
  | _ => none
theorem dg_tup {K : PySem.W.Frag} {t : TGs} {js : List Nat} {f : GFs} {n : Nat} (h : DGs W js t f) : DG W js (gTup K n t) (gT n f) := by
  intro Mb ρ s σ H v d ρ' R r e Q q
  cases d with
  | tup ds =>
    simp only [gT] at e
    split at e
    · rename_i hn
      simp only [Rep] at r
      obtain ⟨a, vs, rfl, na, ha, l⟩ := r
      exact ⟨a, vs, rfl, .of ha, by rw [l.length]; exact hn, h Mb ρ s σ H vs ds ρ' R l e Q q⟩
    · cases e
  | _ => cases e
variable {X : Cx} {pos : Pos}
theorem xg_n (j : Nat) {x : Str} (hN : X.N.Nodup) (hi : X.N[j]? = some x := by rfl) (hx : Loc X.env.scope x := by first | exact Or.inl rfl | exact Or.inr rfl) (hf : X.fn x = true ∨ X.env.scope.names.lookup x = some .local := by first | exact .inl rfl | exact .inr rfl) : XG W X (.Name x pos) [j] (gN j) := ⟨pg_name hN hi hx hf, dg_n⟩
theorem xgs_nil : XGs W X [] [] gsNil := ⟨pgs_nil, dgs_nil⟩
theorem xgs_cons (j : Nat) {x : Str} {es : List Expr} {js : List Nat} {f : GFs} (hN : X.N.Nodup) (h : XGs W X es js f) (hi : X.N[j]? = some x := by rfl) (hx : Loc X.env.scope x := by first | exact Or.inl rfl | exact Or.inr rfl) (hf : X.fn x = true ∨ X.env.scope.names.lookup x = some .local := by first | exact .inl rfl | exact .inr rfl)
    (hs : (assignEach (.Name x pos :: es) X.env).map (·.2) = assign (.Name x pos) X.env :: (assignEach es X.env).map (·.2) := by rfl) : XGs W X (.Name x pos :: es) (j :: js) (gsCons j f) := ⟨pgs_cons (pg_name hN hi hx hf) h.p hs, dgs_cons h.d⟩
theorem xg_tup {es : List Expr} {k : Nat} {js : List Nat} {f : GFs} {n : Nat} (hc : X.calm = true) (h : XGs W X es js f) (hn : (assignEach es X.env).length = n := by rfl) (hst : (assignEach es X.env).findIdx? (·.1) = none := by rfl) : XG W X (.Tuple es k pos) js (gT n f) := ⟨pg_tup hc h.p hn hst, dg_tup h.d⟩

/-! ### what is walked -/
def Keeps (N : Addr → Prop) (H H' : Hp) : Prop := ∀ a o, ¬ N a → H a = some o → H' a = some o
def NN (W : Wd) (wk : Bool) (M : Addr → Prop) : Addr → Prop := fun a => if wk = true then W.at_ a else M a
structure Wlk (W : Wd) (wk : Bool) (M : Addr → Prop) (ds : List D) (J : It) (H' : Hp) (G : Hp → Prop) (Y : Nat → Hp → V → Hp → Prop) : Prop where
  walk : L2.Walk J ds.length G Y
  stay : ∀ H1, Keeps (NN W wk M) H' H1 → G H1
  item : ∀ (M' : Addr → Prop) (i : Nat) (H1 : Hp) (x : V) (H2 : Hp), (∀ a, M' a → M a ∨ H' a = none) → (∀ a, M' a → H1 a ≠ none) → Keeps (NN W wk M) H' H1 → i < ds.length → Y i H1 x H2 → Exh H1 H2 ∧ ∃ d, ds[i]? = some d ∧ Rep M' H2 d x
def DI (W : Wd) (wk : Bool) (wi : TI) (fi : AF W.S) : Prop := ∀ (Mb : Addr → Prop) (ρ : List SV) (s : W.S) (σ : L2.St) (H : Hp) (ds : List D) (s' : W.S), Rel W Mb ρ s σ H → fi ρ s = some (ds, s') →
  ∀ R : It → Hp → Prop, (∀ J H' G Y, Gr W H H' → W.rel (MO Mb ρ σ) s' H' → Wlk W wk (MO Mb ρ σ) ds J H' G Y → R J H') → wi σ H R
inductive XI (W : Wd) (wk : Bool) (X : Cx) (tg iter : Expr) (fi : AF W.S) : Prop where
  | mk {wi : TI} (p : PI X tg iter wi) (d : DI W wk wi fi) : XI W wk X tg iter fi
def tOfI (W : Wd) (wk : Bool) (fi : AF W.S) : TI := fun σ H R => ∃ (Mb : Addr → Prop) (ρ : List SV) (s : W.S) (ds : List D) (s' : W.S), Rel W Mb ρ s σ H ∧ fi ρ s = some (ds, s') ∧ ∀ J H' G Y, Gr W H H' → W.rel (MO Mb ρ σ) s' H' → Wlk W wk (MO Mb ρ σ) ds J H' G Y → R J H'
theorem XI.p {W : Wd} {wk : Bool} {X : Cx} {tg iter : Expr} {fi : AF W.S} (h : XI W wk X tg iter fi) : PI X tg iter (tOfI W wk fi) := by
  obtain ⟨p, d⟩ := h
  exact ⟨fun pins s σ H R' I ⟨Mb, ρ, s0, x, s', R, e, q⟩ => p.run pins s σ H R' I (d Mb ρ s0 σ H x s' R e R' q)⟩
theorem XI.d {W : Wd} {wk : Bool} {X : Cx} {tg iter : Expr} {fi : AF W.S} (_ : XI W wk X tg iter fi) : DI W wk (tOfI W wk fi) fi := fun Mb ρ s σ H x s' R e R' q => ⟨Mb, ρ, s, x, s', R, e, q⟩
theorem keeps_gr {wk : Bool} {M : Addr → Prop} (hw : ∀ a, W.at_ a → M a) (k : Keeps (NN W wk M) H H') : ∀ a o, ¬ M a → H a = some o → H' a = some o := fun a o n e => k a o (fun z => n (by
  unfold NN at z
  cases wk with
  | true => exact hw a (by simpa using z)
  | false => simpa using z)) e
/-- items that stand: of a list or tuple at a -/
theorem wlk_seq {wk : Bool} {M : Addr → Prop} {ds : List D} {vs : List V} {a : Addr} {u : HO} {J : It} {G : Hp → Prop} (hw : ∀ a, W.at_ a → M a) (na : ¬ NN W wk M a) (ha : H a = some u) (l : RepL M H ds vs) (w : L2.Walk J vs.length G (YAt vs)) (hG : ∀ H1, H1 a = some u → G H1) :
    Wlk W wk M ds J H G (YAt vs) where
  walk := by rw [← l.length]; exact w
  stay := fun H1 k => hG H1 (k a u na ha)
  item := fun M' i H1 x H2 m _ k hi y => by
    obtain ⟨rfl, hx⟩ := y
    obtain ⟨d, hd, r⟩ := l.getV hx
    exact ⟨.refl, d, hd, r.step (keeps_gr hw k) m⟩
def PI_or {X : Cx} {tg iter : Expr} {wi wi' : TI} (h : PI X tg iter wi) (h' : PI X tg iter wi') : PI X tg iter (fun σ H R => wi σ H R ∨ wi' σ H R) :=
  ⟨fun pins s σ H R I q => q.elim (h.run pins s σ H R I) (h'.run pins s σ H R I)⟩
def iSeq (K : PySem.W.Frag) (tl : TE) : TI := fun σ H R => iList K tl σ H R ∨ iTup K tl σ H R
def sSeq {S : Type} (fa : EF S) : AF S := fun ρ s => (fa ρ s).bind fun p => (seq? p.1).map fun ds => (ds, p.2)
variable {a b e : Expr} {ta tb te : TE} {fa fb fe : EF W.S} {tg : Expr}
theorem di_seqW {K : PySem.W.Frag} (h : DW W ta fa) : DI W true (iSeq K ta) (sSeq fa) := by
  intro Mb ρ s σ H ds s' R e Rk q
  simp only [sSeq, Option.bind_eq_some_iff, Option.map_eq_some_iff, Prod.mk.injEq] at e
  obtain ⟨⟨d, s1⟩, e1, ds', e2, rfl, rfl⟩ := e
  cases d with
  | tup xs =>
    cases e2
    refine .inr (h Mb ρ s σ H _ _ R e1 _ fun v H1 g1 w1 r1 => ?_)
    obtain ⟨p, vs, rfl, n, hp, l⟩ := repw_tup r1
    exact ⟨p, rfl, ⟨vs, .of hp⟩, q _ H1 _ _ g1 w1 (wlk_seq R.watM (by unfold NN; simp; exact fun z => n (R.watM p z)) hp l (walk_tup (K := K)) fun H1 h => .of h)⟩
  | lst xs =>
    cases e2
    refine .inl (h Mb ρ s σ H _ _ R e1 _ fun v H1 g1 w1 r1 => ?_)
    obtain ⟨p, vs, rfl, n, hp, l⟩ := repw_lst r1
    exact ⟨p, rfl, ⟨vs, .of hp⟩, q _ H1 _ _ g1 w1 (wlk_seq R.watM (by unfold NN; simp; exact n) hp l (walk_list (K := K)) fun H1 h => .of h)⟩
  | _ => cases e2
theorem di_seqS {K : PySem.W.Frag} (h : DE W ta fa) : DI W false (iSeq K ta) (sSeq fa) := by
  intro Mb ρ s σ H ds s' R e Rk q
  simp only [sSeq, Option.bind_eq_some_iff, Option.map_eq_some_iff, Prod.mk.injEq] at e
  obtain ⟨⟨d, s1⟩, e1, ds', e2, rfl, rfl⟩ := e
  cases d with
  | tup xs =>
    cases e2
    refine .inr (h Mb ρ s σ H _ _ R e1 _ fun v H1 g1 w1 r1 => ?_)
    simp only [Rep] at r1
    obtain ⟨p, vs, rfl, n, hp, l⟩ := r1
    exact ⟨p, rfl, ⟨vs, .of hp⟩, q _ H1 _ _ g1 w1 (wlk_seq R.watM (by unfold NN; simp; exact n) hp l (walk_tup (K := K)) fun H1 h => .of h)⟩
  | lst xs =>
    cases e2
    refine .inl (h Mb ρ s σ H _ _ R e1 _ fun v H1 g1 w1 r1 => ?_)
    simp only [Rep] at r1
    obtain ⟨p, vs, rfl, n, hp, l⟩ := r1
    exact ⟨p, rfl, ⟨vs, .of hp⟩, q _ H1 _ _ g1 w1 (wlk_seq R.watM (by unfold NN; simp; exact n) hp l (walk_list (K := K)) fun H1 h => .of h)⟩
  | _ => cases e2
theorem xi_seqW (h : XW W X a fa) : XI W true X tg a (sSeq fa) := ⟨PI_or (pi_list h.p) (pi_tup h.p), di_seqW h.d⟩
theorem xi_seqS (h : XE W X a fa) : XI W false X tg a (sSeq fa) := ⟨PI_or (pi_list h.p) (pi_tup h.p), di_seqS h.d⟩
/-! ranges -/
def rgD (lo : Int) (n : Nat) : List D := (List.range n).map fun (i : Nat) => D.int (lo + i)
theorem rgD_len {lo : Int} {n : Nat} : (rgD lo n).length = n := by simp [rgD]
theorem rgD_get {lo : Int} {n i : Nat} (h : i < n) : (rgD lo n)[i]? = some (.int (lo + i)) := by simp [rgD, h]
theorem wlk_range {wk : Bool} {M : Addr → Prop} {lo : Int} {n : Nat} : Wlk W wk M (rgD lo n) (Itr lo n) H (fun _ => True) (YFn fun i => .int (lo + i)) where
  walk := by rw [rgD_len]; exact walk_range
  stay := fun _ _ => True.intro
  item := fun M' i H1 x H2 m _ k hi y => by
    obtain ⟨rfl, rfl⟩ := y
    rw [rgD_len] at hi
    exact ⟨.refl, _, rgD_get hi, rep_int⟩
def sRg1 {S : Type} (fa : EF S) : AF S := fun ρ s => (fa ρ s).bind fun p => match p.1 with
  | .int j => if -(2 ^ 62) ≤ j ∧ j < 2 ^ 62 then some (rgD 0 j.toNat, p.2) else none
  | _ => none
def sRg2 {S : Type} (fa fb : EF S) : AF S := fun ρ s => (fa ρ s).bind fun p => (fb ρ p.2).bind fun q => match p.1, q.1 with
  | .int i, .int j => if -(2 ^ 62) ≤ i ∧ i < 2 ^ 62 ∧ -(2 ^ 62) ≤ j ∧ j < 2 ^ 62 then some (rgD i (j - i).toNat, q.2) else none
  | _, _ => none
theorem di_rg1 {wk : Bool} (h : DW W ta fa) : DI W wk (iRng1 (tCons ta tNil)) (sRg1 fa) := by
  intro Mb ρ s σ H ds s' R e Rk q
  simp only [sRg1, Option.bind_eq_some_iff] at e
  obtain ⟨⟨d, s1⟩, e1, e2⟩ := e
  cases d with
  | int j =>
    simp only at e2
    split at e2
    · rename_i hj
      cases e2
      refine h Mb ρ s σ H _ _ R e1 _ fun v H1 g1 w1 r1 => ⟨j, ?_, hj.1, hj.2, q _ H1 _ _ g1 w1 wlk_range⟩
      rw [repw_int r1]
    · cases e2
  | _ => cases e2
theorem di_rg2 {wk : Bool} (h : DW W ta fa) (h' : DW W tb fb) : DI W wk (iRng2 (tCons ta (tCons tb tNil))) (sRg2 fa fb) := by
  intro Mb ρ s σ H ds s' R e Rk q
  simp only [sRg2, Option.bind_eq_some_iff] at e
  obtain ⟨⟨d, s1⟩, e1, ⟨d', s2⟩, e2, e3⟩ := e
  cases d with
  | int i =>
    cases d' with
    | int j =>
      simp only at e3
      split at e3
      · rename_i hj
        cases e3
        refine h Mb ρ s σ H _ _ R e1 _ fun v H1 g1 w1 r1 => ?_
        refine h' Mb ρ s1 σ H1 _ _ (R.gr g1 w1) e2 _ fun v' H2 g2 w2 r2 => ⟨i, j, ?_, hj, q _ H2 _ _ (g1.trans g2) w2 wlk_range⟩
        rw [repw_int r1, repw_int r2]
      · cases e3
    | _ => cases e3
  | _ => cases e3
theorem xi_rg1 {wk : Bool} {p : Pos} (B : Bis X.mg) (h : XW W X a fa) (hg : Gl X "range" := by rfl) (hs : starEach [a] X.env = [(false, eval a X.env)] := by rfl) : XI W wk X tg (.Call (.Name "range" p) [a] [] pos) (sRg1 fa) :=
  ⟨pi_range1 hg B.range (pa_cons h.p pa_nil hs) hs, di_rg1 h.d⟩
theorem xi_rg2 {wk : Bool} {p : Pos} (B : Bis X.mg) (h : XW W X a fa) (h' : XW W X b fb) (hg : Gl X "range" := by rfl) (hs : starEach [a, b] X.env = [(false, eval a X.env), (false, eval b X.env)] := by rfl) (hs2 : starEach [b] X.env = [(false, eval b X.env)] := by rfl)
    (hs3 : starEach [a, b] X.env = (false, eval a X.env) :: starEach [b] X.env := by rfl) :
    XI W wk X tg (.Call (.Name "range" p) [a, b] [] pos) (sRg2 fa fb) :=
  ⟨pi_range2 hg B.range (pa_cons h.p (pa_cons h'.p pa_nil hs2) hs3) hs hs2, di_rg2 h.d h'.d⟩
end
end K7
end
section
set_option maxRecDepth 100000
/-! K76, part f: comprehensions. -/
namespace K7
open PySem L2
section
variable {W : Wd} {Mb Mb' : Addr → Prop} {ρ ρ' : List SV} {s s' : W.S} {σ σ' : L2.St} {H H' : Hp}
theorem Rel.touch (R : Rel W Mb ρ s σ H) {p : Addr} {o : HO} (hp : Mb p) (hw : ¬ W.at_ p) : Rel W Mb ρ s σ (upd H p o) := by
  have np : ∀ {a}, OwnAt ρ σ a → a ≠ p := fun h e => R.ofr _ h (by rw [e]; exact hp)
  refine ⟨R.len, R.sub, fun a h => ?_, R.ofr, R.inj, fun i x o' hx hs => ?_, ?_⟩
  · by_cases e : a = p
    · rw [e, upd_same]
      intro z
      cases z
    · rw [upd_ne e]
      exact R.trk a h
  · refine (R.slot i x o' hx hs).step (fun a u n e => by rw [upd_ne (fun z => n (.inl (by rw [z]; exact hp)))]; exact e) (fun _ z => .inl z) fun a ho e => ?_
    exact upd_ne (np ⟨i, ⟨x, hx, ho⟩, by rw [hs, e]⟩)
  · refine W.grow _ s H _ (fun a u n e => ?_) R.world
    rw [upd_ne (fun z => n.elim (fun q => hw (by rw [← z]; exact q)) fun q => q (.inl (by rw [z]; exact hp)))]
    exact e
/-! ### list comprehensions -/
def lcGo {S : Type} (gf : GF) (ft : TF S) (fe : EF S) (ρ : List SV) : List D → S → Option (List D × S)
  | [], s => some ([], s)
  | d :: ds, s => (gf d ρ).bind fun ρ1 => (ft ρ1 s).bind fun p => if p.1 = true then (fe ρ1 p.2).bind fun q => (lcGo gf ft fe ρ ds q.2).map fun r => (q.1 :: r.1, r.2) else lcGo gf ft fe ρ ds p.2
def fLc {S : Type} (fi : AF S) (gf : GF) (ft : TF S) (fe : EF S) (vs : List Nat) : EF S := fun ρ s => if vs.all (notOwn ρ) = true then (fi ρ s).bind fun p => if p.1.length ≤ LIM then (lcGo gf ft fe (wipeS ρ vs) p.1 p.2).map fun q => (.lst q.1, q.2) else none else none
theorem drop_of {α : Type} {xs : List α} {i : Nat} {x : α} (h : xs[i]? = some x) : xs.drop i = x :: xs.drop (i + 1) := by
  obtain ⟨hl, e⟩ := List.getElem?_eq_some_iff.mp h
  rw [← e]
  exact List.drop_eq_getElem_cons hl
variable {wi : TI} {g : TG} {tt : TT} {te : TE} {fi : AF W.S} {gf : GF} {ft : TF W.S} {fe : EF W.S} {js vs : List Nat}
/-- the state at a turn of a comprehension: the new list at D -/
structure LcAt (W : Wd) (Mb : Addr → Prop) (ρ : List SV) (σ : L2.St) (H1 : Hp) (Dl : Addr) (vs : List Nat) (s : W.S) (da : List D) (H : Hp) : Prop where
  lst : ∃ acc, H Dl = some (.lst acc) ∧ RepL (MO (fun a => Mb a ∨ a = Dl) ρ σ) H da acc
  rel : Rel W (fun a => Mb a ∨ a = Dl) (wipeS ρ vs) s (wipe σ vs) H
  mo : MO (fun a => Mb a ∨ a = Dl) (wipeS ρ vs) (wipe σ vs) = MO (fun a => Mb a ∨ a = Dl) ρ σ
  gr : Gr W H1 H
theorem LcAt.start {H1 : Hp} {Dl : Addr} (R : Rel W Mb ρ s σ H1) (hD : H1 Dl = none) (hv : vs.all (notOwn ρ) = true) : LcAt W Mb ρ σ H1 Dl vs s [] (upd H1 Dl (.lst [])) := by
  obtain ⟨R3, eM⟩ := (R.base (o := .lst []) hD).wipe hv
  exact ⟨⟨[], upd_same, .nil⟩, R3, eM, .new hD⟩
theorem LcAt.fin {H1 : Hp} {Dl : Addr} {da : List D} (L : LcAt W Mb ρ σ H1 Dl vs s da H) (R : Rel W Mb ρ s' σ H1) (hD : H1 Dl = none) : W.rel (MO Mb ρ σ) s H ∧ Rep (MO Mb ρ σ) H (.lst da) (.ref Dl) := by
  have sub : ∀ a, MO Mb ρ σ a → MO (fun a => Mb a ∨ a = Dl) ρ σ a := fun a h => h.elim (fun z => .inl (.inl z)) .inr
  obtain ⟨acc, h1, h2⟩ := L.lst
  have w := L.rel.world
  rw [L.mo] at w
  exact ⟨W.more _ _ _ _ (fun a h => .inl (sub a h)) w, rep_lst (fun z => R.moT z hD) h1 (h2.more fun a h => .inl (sub a h))⟩
theorem LcAt.next {H1 H4 : Hp} {Dl : Addr} {da : List D} {y : D} {v : V} (L : LcAt W Mb ρ σ H1 Dl vs s da H) (hw : ¬ W.at_ Dl) (g4 : Gr W H H4) (w4 : W.rel (MO (fun a => Mb a ∨ a = Dl) ρ σ) s' H4) (hD : H1 Dl = none)
    (r : Rep (MO (fun a => Mb a ∨ a = Dl) ρ σ) H4 y v) : ∃ acc, H4 Dl = some (.lst acc) ∧ acc.length = da.length ∧ LcAt W Mb ρ σ H1 Dl vs s' (da ++ [y]) (upd H4 Dl (.lst (acc ++ [v]))) := by
  obtain ⟨acc, h1, h2⟩ := L.lst
  have hM : MO (fun a => Mb a ∨ a = Dl) ρ σ Dl := .inl (.inr rfl)
  have gg : ∀ a o, ¬ MO (fun a => Mb a ∨ a = Dl) ρ σ a → H4 a = some o → upd H4 Dl (.lst (acc ++ [v])) a = some o := fun a o n e => by
    rw [upd_ne (fun z => n (by rw [z]; exact hM))]
    exact e
  refine ⟨acc, g4 Dl _ hw h1, h2.length, ⟨acc ++ [v], upd_same, ?_⟩, ?_, L.mo, fun a o n e => ?_⟩
  · have wm : ∀ a, W.at_ a → MO (fun a => Mb a ∨ a = Dl) ρ σ a := fun a z => by
      rw [← L.mo]
      exact L.rel.watM a z
    exact ((h2.grow (gr_mo wm g4)).append (.cons r .nil)).grow gg
  · exact (L.rel.gr g4 (by rw [L.mo]; exact w4)).touch (.inr rfl) hw
  · rw [upd_ne (ne_of_none e hD)]
    exact g4 a o n (L.gr a o n e)
theorem Tgt.mo {X : Addr → Prop} (T : Tgt W Mb js ρ ρ' s σ σ' H) (hn : ∀ j ∈ js, notOwn ρ j = true) : MO Mb ρ' σ' = MO Mb ρ σ := by
  funext a
  exact propext ⟨fun h => h.elim .inl fun z => .inr (T.own a z), fun h => h.elim .inl fun z => .inr (T.own' hn a z)⟩
theorem notOwn_wiped : ∀ {vs : List Nat} {j : Nat}, j ∈ vs → notOwn (wipeS ρ vs) j = true
  | [], _, h => by cases h
  | v :: vs, j, h => by
    unfold wipeS notOwn
    by_cases e : v = j
    · subst e
      by_cases hl : v < (wipeS ρ vs).length
      · rw [List.getElem?_set_self hl]
        rfl
      · rw [List.getElem?_eq_none (by simpa using hl)]
    · rw [List.getElem?_set_ne e]
      exact notOwn_wiped ((List.mem_cons.mp h).resolve_left (Ne.symm e))
theorem wipe_tgt {σ2 : L2.St} (T : Tgt W Mb js (wipeS ρ vs) ρ' s (wipe σ vs) σ2 H) (hjs : ∀ j ∈ js, j ∈ vs) : wipe σ2 vs = wipe σ vs := by
  refine wipe_same (by rw [T.len, wipe_length]) fun i hi => T.out i fun z => hi (hjs i z)
theorem de_lc (hi : DI W true wi fi) (hg : DG W js g gf) (hjs : ∀ j ∈ js, j ∈ vs) (ht : DT W tt ft) (he : DE W te fe) : DE W (tLc wi g tt te vs) (fLc fi gf ft fe vs) := by
  intro Mb ρ s σ H d s' R e Q q
  unfold fLc at e
  split at e
  · rename_i hv
    obtain ⟨⟨ds0, s1⟩, e1, e⟩ := Option.bind_eq_some_iff.mp e
    simp only at e
    split at e
    · rename_i hz
      simp only [Option.map_eq_some_iff, Prod.mk.injEq] at e
      obtain ⟨⟨ys, s2⟩, e2, rfl, rfl⟩ := e
      refine hi Mb ρ s σ H ds0 s1 R e1 _ fun J H1 G Y g1 w1 wl => ?_
      intro Dl hD
      have R1 : Rel W Mb ρ s1 σ H1 := R.gr g1 w1
      have hDw : ¬ W.at_ Dl := fun z => R1.trk Dl (R1.sub Dl z) hD
      refine lc_it wl.walk (fun i Hc => ∃ (si : W.S) (da rest : List D), lcGo gf ft fe (wipeS ρ vs) (ds0.drop i) si = some (rest, s2) ∧ da ++ rest = ys ∧ da.length ≤ i ∧ LcAt W Mb ρ σ H1 Dl vs si da Hc) ?h0 ?hG ?hs ?hd
      case h0 => exact ⟨s1, [], ys, e2, rfl, Nat.le_refl _, .start R1 hD hv⟩
      case hG =>
        rintro i Hc _ ⟨si, da, rest, _, _, _, L⟩
        exact wl.stay Hc fun a o n e => L.gr a o (by simpa [NN] using n) e
      case hs =>
        rintro i x Hc H2 hlt ⟨si, da, rest, er, ea, hle, L⟩ y
        obtain ⟨xh, d, hd, rd⟩ := wl.item (MO (fun a => Mb a ∨ a = Dl) ρ σ) i Hc x H2 (fun a h => by
          rcases h with (h | h) | h
          · exact .inl (.inl h)
          · exact .inr (by rw [h]; exact hD)
          · exact .inl (.inr h)) (fun a h => L.rel.moT (by rw [L.mo]; exact h)) (fun a o n e => L.gr a o (by simpa [NN] using n) e) hlt y
        rw [drop_of hd] at er
        simp only [lcGo, Option.bind_eq_some_iff] at er
        obtain ⟨ρ1, eg, ⟨b, s3⟩, et, er⟩ := er
        have Rx := L.rel.gr xh.gr (W.ex xh L.rel.world)
        refine hg _ _ si _ H2 x d ρ1 Rx (by rw [L.mo]; exact rd) eg _ fun σ2 T => ⟨wipe_tgt T hjs, ?_⟩
        have eM : MO (fun a => Mb a ∨ a = Dl) ρ1 σ2 = MO (fun a => Mb a ∨ a = Dl) ρ σ := (T.mo (X := fun _ => True) fun j hj => notOwn_wiped (hjs j hj)).trans L.mo
        refine ht _ ρ1 si σ2 H2 b s3 T.rel et _ fun H3 g3 w3 => ?_
        have gg : Gr W Hc H3 := xh.gr.trans g3
        cases b with
        | true =>
          simp only [if_true, Option.bind_eq_some_iff, Option.map_eq_some_iff, Prod.mk.injEq] at er
          obtain ⟨⟨yd, s4⟩, ee, ⟨ys', s5⟩, ego, rfl, rfl⟩ := er
          refine iteT ?_
          refine he _ ρ1 s3 σ2 H3 yd s4 (T.rel.gr g3 w3) ee _ fun v H4 g4 w4 r4 => ?_
          rw [eM] at w4 r4
          obtain ⟨acc, h1, h2, L4⟩ := L.next hDw (gg.trans g4) w4 hD r4
          refine ⟨acc, h1, lim_lt (by omega), s4, da ++ [yd], ys', ego, by rw [List.append_assoc]; exact ea, by rw [List.length_append]; simp; omega, L4⟩
        | false =>
          refine iteF ?_
          rw [eM] at w3
          have er' : lcGo gf ft fe (wipeS ρ vs) (ds0.drop (i + 1)) s3 = some (rest, s2) := by simpa using er
          obtain ⟨acc, h1, h2⟩ := L.lst
          have wm : ∀ a, W.at_ a → MO (fun a => Mb a ∨ a = Dl) ρ σ a := fun a z => by
            rw [← L.mo]
            exact L.rel.watM a z
          exact ⟨s3, da, rest, er', ea, by omega, ⟨acc, gg Dl _ hDw h1, h2.grow (gr_mo wm gg)⟩, L.rel.gr gg (by rw [L.mo]; exact w3), L.mo, L.gr.trans gg⟩
      case hd =>
        rintro Hc ⟨si, da, rest, er, ea, _, L⟩
        rw [List.drop_length] at er
        simp only [lcGo, Option.some.injEq, Prod.mk.injEq] at er
        obtain ⟨rfl, rfl⟩ := er
        rw [List.append_nil] at ea
        subst ea
        obtain ⟨h1, h2⟩ := L.fin R1 hD
        exact q _ Hc (g1.trans L.gr) h1 h2
    · cases e
  · cases e
end
end K7
end
section
set_option maxRecDepth 100000
/-! K76, part g: comprehensions as rules; of two clauses; of dicts. -/
namespace K7
open PySem L2
section
variable {W : Wd} {Mb Mb' : Addr → Prop} {ρ ρ' : List SV} {s s' : W.S} {σ σ' : L2.St} {H H' : Hp} {X : Cx} {e elt tg iter tg1 iter1 : Expr} {ifs ifs1 : List Expr} {pos : Pos}
  {wi wi1 : TI} {g g1 : TG} {tt tt1 : TT} {te tk tv : TE} {fi fi1 : AF W.S} {gf gf1 : GF} {ft ft1 : TF W.S} {fe fk fv : EF W.S} {js js1 vs1 : List Nat}
inductive XTs (W : Wd) (X : Cx) (ifs : List Expr) (f : TF W.S) : Prop where
  | mk {t : TT} (p : PTs X ifs t) (d : DT W t f) : XTs W X ifs f
theorem XTs.p {W : Wd} {X : Cx} {ifs : List Expr} {f : TF W.S} (h : XTs W X ifs f) : PTs X ifs (tOfT W f) := by
  obtain ⟨p, d⟩ := h
  exact ⟨fun pins s σ H Q I ⟨Mb, ρ, s0, x, s', R, e, q⟩ => p.run pins s σ H Q I (d Mb ρ s0 σ H x s' R e Q q)⟩
theorem XTs.d {W : Wd} {X : Cx} {ifs : List Expr} {f : TF W.S} (_ : XTs W X ifs f) : DT W (tOfT W f) f := fun Mb ρ s σ H x s' R e Q q => ⟨Mb, ρ, s, x, s', R, e, q⟩
def fYes {S : Type} : TF S := fun _ s => some (true, s)
theorem xts_nil : XTs W X [] fYes := ⟨pts_nil, fun Mb ρ s σ H b s' R e Q q => by
  cases e
  exact q H .refl R.world⟩
theorem xts_one {c : Expr} {f : TF W.S} (h : XT W X c f) : XTs W X [c] f := ⟨pts_one h.p, h.d⟩
theorem xe_lc {scope : Scope} {own : List (Str × Nat)} (hc : X.calm = true) (hN : X.N.Nodup) (hi : XI W true X tg iter fi) (ok : BlkOk X.N X.env.scope scope own)
    (hg : ∀ (s : Shared) (H : Hp) (C : Addr) (cl : List (Str × Addr)) (fp : List Addr), XG W (X.blk s H scope (compEnvC scope cl C X.env) fp) tg js gf) (ht : ∀ (s : Shared) (H : Hp) (C : Addr) (cl : List (Str × Addr)) (fp : List Addr), XTs W (X.blk s H scope (compEnvC scope cl C X.env) fp) ifs ft)
    (he : ∀ (s : Shared) (H : Hp) (C : Addr) (cl : List (Str × Addr)) (fp : List Addr), XE W (X.blk s H scope (compEnvC scope cl C X.env) fp) elt fe) (hjs : ∀ j ∈ js, j ∈ own.map (·.2) := by decide) (hs : ∀ x, foldedSetIterable iter X.env x = pure x := by intro _; rfl) :
    XE W X (.ListComp elt [⟨tg, iter, ifs, 0⟩] scope pos) (fLc fi gf ft fe (own.map (·.2))) :=
  ⟨pe_lc hc hN hi.p ok (fun s H C cl fp => (hg s H C cl fp).p) (fun s H C cl fp => (ht s H C cl fp).p) (fun s H C cl fp => (he s H C cl fp).p) hs,
    de_lc hi.d (hg X.s_0 (fun _ => none) 0 [] []).d hjs (ht X.s_0 (fun _ => none) 0 [] []).d (he X.s_0 (fun _ => none) 0 [] []).d⟩

/-! ### two clauses -/
def lc2Go {S : Type} (gf : GF) (ft : TF S) (fi1 : AF S) (gf1 : GF) (ft1 : TF S) (fe : EF S) (vs1 : List Nat) (ρ : List SV) : List D → S → Option (List D × S)
  | [], s => some ([], s)
  | d :: ds, s => (gf d ρ).bind fun ρ1 => (ft ρ1 s).bind fun p => if p.1 = true then (if vs1.all (notOwn ρ1) = true then (fi1 ρ1 p.2).bind fun q => (lcGo gf1 ft1 fe (wipeS ρ1 vs1) q.1 q.2).bind fun r => (lc2Go gf ft fi1 gf1 ft1 fe vs1 ρ ds r.2).map fun t => (r.1 ++ t.1, t.2) else none)
    else lc2Go gf ft fi1 gf1 ft1 fe vs1 ρ ds p.2
def fLc2 {S : Type} (fi : AF S) (gf : GF) (ft : TF S) (fi1 : AF S) (gf1 : GF) (ft1 : TF S) (fe : EF S) (vs vs1 : List Nat) : EF S := fun ρ s => if vs.all (notOwn ρ) = true then (fi ρ s).bind fun p => (lc2Go gf ft fi1 gf1 ft1 fe vs1 (wipeS ρ vs) p.1 p.2).bind fun q => if q.1.length ≤ LIM then some (.lst q.1, q.2) else none else none
theorem lc_itG {J : It} {n : Nat} {G : Hp → Prop} {Y : Nat → Hp → V → Hp → Prop} (w : L2.Walk J n G Y) {g : TG} {tt : TT} {te : TE} {vs : List Nat} {σ : L2.St} {Hs : Hp} {D : Addr} {Qd : Hp → Prop} (Pv : Nat → Hp → Prop) (h0 : Pv 0 Hs) (hG : ∀ i H, i ≤ n → Pv i H → G H)
    (hs : ∀ i x H H', i < n → Pv i H → Y i H x H' → g x (wipe σ vs) H' fun σ2 H2 => wipe σ2 vs = wipe σ vs ∧ tt σ2 H2 fun b H3 =>
      if b = true then te σ2 H3 fun y H4 => ∃ acc, H4 D = some (.lst acc) ∧ acc.length < sizeLine ∧ Pv (i + 1) (upd H4 D (.lst (acc ++ [y]))) else Pv (i + 1) H3) (hd : ∀ H, Pv n H → Qd H) :
    ∃ W : Nat → Nat → Hp → Prop, (∃ m, W 0 m Hs) ∧ ∀ i m H, W i m H →
      (J.stop i H ∧ Qd H) ∨ (J.go i H ∧ ∃ Nx : Hp → Prop, (∀ H', Nx H' → ∃ m', m' < m ∧ W (i + 1) m' H') ∧ ∀ x H', J.yld i H x H' → g x (wipe σ vs) H' fun σ2 H2 => wipe σ2 vs = wipe σ vs ∧ tt σ2 H2 fun b H3 =>
        if b = true then te σ2 H3 fun y H4 => ∃ acc, H4 D = some (.lst acc) ∧ acc.length < sizeLine ∧ Nx (upd H4 D (.lst (acc ++ [y]))) else Nx H3) := by
  refine ⟨fun i m H => m = n - i ∧ i ≤ n ∧ Pv i H, ⟨n, by simp, Nat.zero_le _, h0⟩, ?_⟩
  rintro i m H ⟨rfl, hi, p⟩
  have q := hG i H hi p
  by_cases hlt : i < n
  · refine .inr ⟨w.goes i H hlt q, Pv (i + 1), fun H' p' => ⟨n - (i + 1), by omega, rfl, hlt, p'⟩, fun x H' y => hs i x H H' hlt p (w.yields i H x H' hlt q y)⟩
  · have e : i = n := by omega
    subst e
    exact .inl ⟨w.stops H q, hd H p⟩
/-- the state at a turn, the frame's slots at hand as they are -/
structure LcS (W : Wd) (Mb1 M1 : Addr → Prop) (ρw : List SV) (σw : L2.St) (H1 : Hp) (Dl : Addr) (s : W.S) (da : List D) (H : Hp) : Prop where
  lst : ∃ acc, H Dl = some (.lst acc) ∧ RepL M1 H da acc
  rel : Rel W Mb1 ρw s σw H
  mo : MO Mb1 ρw σw = M1
  gr : Gr W H1 H
section
variable {Mb1 M1 : Addr → Prop} {ρw ρ2 : List SV} {σw σ2 : L2.St} {H1 H4 : Hp} {Dl : Addr} {da : List D} {y : D} {v : V}
theorem LcS.wm (L : LcS W Mb1 M1 ρw σw H1 Dl s da H) : ∀ a, W.at_ a → M1 a := fun a z => by
  rw [← L.mo]
  exact L.rel.watM a z
theorem LcS.grow (L : LcS W Mb1 M1 ρw σw H1 Dl s da H) (hw : ¬ W.at_ Dl) (g4 : Gr W H H4) (w4 : W.rel M1 s' H4) : LcS W Mb1 M1 ρw σw H1 Dl s' da H4 := by
  obtain ⟨acc, h1, h2⟩ := L.lst
  exact ⟨⟨acc, g4 Dl _ hw h1, h2.grow (gr_mo L.wm g4)⟩, L.rel.gr g4 (by rw [L.mo]; exact w4), L.mo, L.gr.trans g4⟩
theorem LcS.next (L : LcS W Mb1 M1 ρw σw H1 Dl s da H) (hb : Mb1 Dl) (hw : ¬ W.at_ Dl) (g4 : Gr W H H4) (w4 : W.rel M1 s' H4) (hD : H1 Dl = none) (r : Rep M1 H4 y v) :
    ∃ acc, H4 Dl = some (.lst acc) ∧ acc.length = da.length ∧ LcS W Mb1 M1 ρw σw H1 Dl s' (da ++ [y]) (upd H4 Dl (.lst (acc ++ [v]))) := by
  obtain ⟨acc, h1, h2⟩ := L.lst
  have hM : M1 Dl := by
    rw [← L.mo]
    exact .inl hb
  have gg : ∀ a o, ¬ M1 a → H4 a = some o → upd H4 Dl (.lst (acc ++ [v])) a = some o := fun a o n e => by
    rw [upd_ne (fun z => n (by rw [z]; exact hM))]
    exact e
  refine ⟨acc, g4 Dl _ hw h1, h2.length, ⟨acc ++ [v], upd_same, ((h2.grow (gr_mo L.wm g4)).append (.cons r .nil)).grow gg⟩, (L.rel.gr g4 (by rw [L.mo]; exact w4)).touch hb hw, L.mo, fun a o n e => ?_⟩
  rw [upd_ne (ne_of_none e hD)]
  exact g4 a o n (L.gr a o n e)
theorem LcS.slots (L : LcS W Mb1 M1 ρw σw H1 Dl s da H) (R : Rel W Mb1 ρ2 s σ2 H) (e : MO Mb1 ρ2 σ2 = M1) : LcS W Mb1 M1 ρ2 σ2 H1 Dl s da H := ⟨L.lst, R, e, L.gr⟩
end
theorem LcAt.ls {H1 : Hp} {Dl : Addr} {vs : List Nat} {da : List D} (L : LcAt W Mb ρ σ H1 Dl vs s da H) : LcS W (fun a => Mb a ∨ a = Dl) (MO (fun a => Mb a ∨ a = Dl) ρ σ) (wipeS ρ vs) (wipe σ vs) H1 Dl s da H := ⟨L.lst, L.rel, L.mo, L.gr⟩
theorem LcS.at {H1 : Hp} {Dl : Addr} {vs : List Nat} {da : List D} (L : LcS W (fun a => Mb a ∨ a = Dl) (MO (fun a => Mb a ∨ a = Dl) ρ σ) (wipeS ρ vs) (wipe σ vs) H1 Dl s da H) : LcAt W Mb ρ σ H1 Dl vs s da H := ⟨L.lst, L.rel, L.mo, L.gr⟩
variable {vs : List Nat}
theorem de_lc2 (hi : DI W true wi fi) (hg : DG W js g gf) (hjs : ∀ j ∈ js, j ∈ vs) (ht : DT W tt ft) (hi1 : DI W false wi1 fi1) (hg1 : DG W js1 g1 gf1) (hjs1 : ∀ j ∈ js1, j ∈ vs1) (ht1 : DT W tt1 ft1) (he : DE W te fe) :
    DE W (tLc2 wi g tt wi1 g1 tt1 te vs vs1) (fLc2 fi gf ft fi1 gf1 ft1 fe vs vs1) := by
  intro Mb ρ s σ H d s' R e Q q
  unfold fLc2 at e
  split at e
  · rename_i hv
    obtain ⟨⟨ds0, s1⟩, e1, e⟩ := Option.bind_eq_some_iff.mp e
    obtain ⟨⟨ys, s2⟩, e2, e⟩ := Option.bind_eq_some_iff.mp e
    simp only at e e2
    split at e
    · rename_i hz
      cases e
      refine hi Mb ρ s σ H ds0 s1 R e1 _ fun J H1 G Y g1 w1 wl => ?_
      intro Dl hD
      have R1 : Rel W Mb ρ s1 σ H1 := R.gr g1 w1
      have hDw : ¬ W.at_ Dl := fun z => R1.trk Dl (R1.sub Dl z) hD
      have hlen : ∀ {da rest : List D}, da ++ rest = ys → da.length ≤ LIM := fun {da rest} e => by
        rw [← e, List.length_append] at hz
        omega
      refine ⟨fun i m Hc => m = ds0.length - i ∧ i ≤ ds0.length ∧ ∃ (si : W.S) (da rest : List D), lc2Go gf ft fi1 gf1 ft1 fe vs1 (wipeS ρ vs) (ds0.drop i) si = some (rest, s') ∧ da ++ rest = ys ∧ LcAt W Mb ρ σ H1 Dl vs si da Hc,
        ⟨ds0.length, by simp, Nat.zero_le _, s1, [], ys, e2, rfl, .start R1 hD hv⟩, ?_⟩
      rintro i m Hc ⟨rfl, hle, si, da, rest, er, ea, L⟩
      have kp : Keeps (NN W true (MO Mb ρ σ)) H1 Hc := fun a o n e => L.gr a o (by simpa [NN] using n) e
      have hG := wl.stay Hc kp
      by_cases hlt : i < ds0.length
      · refine .inr ⟨wl.walk.goes i Hc hlt hG, fun Hn => ∃ (si : W.S) (da rest : List D), lc2Go gf ft fi1 gf1 ft1 fe vs1 (wipeS ρ vs) (ds0.drop (i + 1)) si = some (rest, s') ∧ da ++ rest = ys ∧ LcAt W Mb ρ σ H1 Dl vs si da Hn, fun Hn p => ⟨ds0.length - (i + 1), by omega, rfl, hlt, p⟩, fun x H2 y => ?_⟩
        obtain ⟨xh, d, hd, rd⟩ := wl.item (MO (fun a => Mb a ∨ a = Dl) ρ σ) i Hc x H2 (fun a h => by
          rcases h with (h | h) | h
          · exact .inl (.inl h)
          · exact .inr (by rw [h]; exact hD)
          · exact .inl (.inr h)) (fun a h => L.rel.moT (by rw [L.mo]; exact h)) kp hlt (wl.walk.yields i Hc x H2 hlt hG y)
        rw [drop_of hd] at er
        simp only [lc2Go, Option.bind_eq_some_iff] at er
        obtain ⟨ρ1, eg, ⟨b, s3⟩, et, er⟩ := er
        have L1 := L.ls.grow hDw xh.gr (W.ex xh (by have w := L.rel.world; rw [L.mo] at w; exact w))
        refine hg _ _ si _ H2 x d ρ1 L1.rel (by rw [L1.mo]; exact rd) eg _ fun σ2 T => ⟨wipe_tgt T hjs, ?_⟩
        have eM : MO (fun a => Mb a ∨ a = Dl) ρ1 σ2 = MO (fun a => Mb a ∨ a = Dl) ρ σ := (T.mo (X := fun _ => True) fun j hj => notOwn_wiped (hjs j hj)).trans L.mo
        refine ht _ ρ1 si σ2 H2 b s3 T.rel et _ fun H3 g3 w3 => ?_
        have w3' := w3
        rw [eM] at w3'
        cases b with
        | false =>
          refine iteF ?_
          have er' : lc2Go gf ft fi1 gf1 ft1 fe vs1 (wipeS ρ vs) (ds0.drop (i + 1)) s3 = some (rest, s') := by simpa using er
          exact ⟨s3, da, rest, er', ea, (L1.grow hDw g3 w3').at⟩
        | true =>
          refine iteT ?_
          simp only [if_true] at er
          split at er
          · rename_i hv1
            obtain ⟨⟨ds1, s4⟩, e4, er⟩ := Option.bind_eq_some_iff.mp er
            obtain ⟨⟨zs, s5⟩, e5, er⟩ := Option.bind_eq_some_iff.mp er
            simp only [Option.map_eq_some_iff, Prod.mk.injEq] at er
            obtain ⟨⟨rest', s6⟩, e6, rfl, rfl⟩ := er
            have L2 := (L1.slots T.rel eM).grow hDw g3 w3'
            have L0 := L1.grow hDw g3 w3'
            refine hi1 _ ρ1 s3 σ2 H3 ds1 s4 L2.rel e4 _ fun J1 H4 G1 Y1 g4 w4 wl1 => ?_
            have w4' := w4
            rw [eM] at w4'
            have L3 := L2.grow hDw g4 w4'
            have L03 := L0.grow hDw g4 w4'
            obtain ⟨R5, eM5⟩ := L3.rel.wipe hv1
            have L5 := L3.slots R5 (eM5.trans L3.mo)
            have kk : ∀ {Hx : Hp}, (∀ a o, ¬ MO (fun a => Mb a ∨ a = Dl) ρ σ a → H4 a = some o → Hx a = some o) → Keeps (NN W false (MO (fun a => Mb a ∨ a = Dl) ρ1 σ2)) H4 Hx := fun {Hx} k a o n e => k a o (by
              have n' : ¬ MO (fun a => Mb a ∨ a = Dl) ρ1 σ2 a := by simpa [NN] using n
              rw [eM] at n'
              exact n') e
            refine lc_itG wl1.walk (fun j Hj => ∃ (sj : W.S) (dj zr : List D), lcGo gf1 ft1 fe (wipeS ρ1 vs1) (ds1.drop j) sj = some (zr, s5) ∧ dj ++ zr = da ++ zs ∧ LcS W (fun a => Mb a ∨ a = Dl) (MO (fun a => Mb a ∨ a = Dl) ρ σ) (wipeS ρ1 vs1) (wipe σ2 vs1) H1 Dl sj dj Hj ∧
              Rel W (fun a => Mb a ∨ a = Dl) (wipeS ρ vs) sj (wipe σ vs) Hj ∧ (∀ a o, ¬ MO (fun a => Mb a ∨ a = Dl) ρ σ a → H4 a = some o → Hj a = some o)) ?h0 ?hG ?hs ?hd
            case h0 => exact ⟨s4, da, zs, e5, rfl, L5, L03.rel, fun _ _ _ e => e⟩
            case hG =>
              rintro j Hj _ ⟨_, _, _, _, _, _, _, k⟩
              exact wl1.stay Hj (kk k)
            case hs =>
              rintro j x1 Hj H5 hlt1 ⟨sj, dj, zr, ez, ead, Lj, Rj, k⟩ y1
              obtain ⟨xh1, d1, hd1, rd1⟩ := wl1.item (MO (fun a => Mb a ∨ a = Dl) ρ σ) j Hj x1 H5 (fun a h => .inl (by rw [eM]; exact h)) (fun a h => Lj.rel.moT (by rw [Lj.mo]; exact h)) (kk k) hlt1 y1
              rw [drop_of hd1] at ez
              simp only [lcGo, Option.bind_eq_some_iff] at ez
              obtain ⟨ρ3, eg1, ⟨b1, s7⟩, et1, ez⟩ := ez
              have wj : W.rel (MO (fun a => Mb a ∨ a = Dl) ρ σ) sj Hj := by have w := Lj.rel.world; rw [Lj.mo] at w; exact w
              have Lj1 := Lj.grow hDw xh1.gr (W.ex xh1 wj)
              refine hg1 _ _ sj _ H5 x1 d1 ρ3 Lj1.rel (by rw [Lj1.mo]; exact rd1) eg1 _ fun σ3 T1 => ⟨wipe_tgt T1 hjs1, ?_⟩
              have eM1 : MO (fun a => Mb a ∨ a = Dl) ρ3 σ3 = MO (fun a => Mb a ∨ a = Dl) ρ σ := (T1.mo (X := fun _ => True) fun j hj => notOwn_wiped (hjs1 j hj)).trans Lj.mo
              refine ht1 _ ρ3 sj σ3 H5 b1 s7 T1.rel et1 _ fun H6 g6 w6 => ?_
              have gg : Gr W Hj H6 := xh1.gr.trans g6
              have hrw : ∀ {sx : W.S} {Hx : Hp}, W.rel (MO (fun a => Mb a ∨ a = Dl) ρ σ) sx Hx → W.rel (MO (fun a => Mb a ∨ a = Dl) (wipeS ρ vs) (wipe σ vs)) sx Hx := fun {sx Hx} h => by rw [L.mo]; exact h
              cases b1 with
              | false =>
                refine iteF ?_
                rw [eM1] at w6
                have ez' : lcGo gf1 ft1 fe (wipeS ρ1 vs1) (ds1.drop (j + 1)) s7 = some (zr, s5) := by simpa using ez
                exact ⟨s7, dj, zr, ez', ead, Lj.grow hDw gg w6, Rj.gr gg (hrw w6), fun a o n e => gr_mo Lj.wm gg a o n (k a o n e)⟩
              | true =>
                refine iteT ?_
                simp only [if_true, Option.bind_eq_some_iff, Option.map_eq_some_iff, Prod.mk.injEq] at ez
                obtain ⟨⟨yd, s8⟩, ee, ⟨zr', s9⟩, ego, rfl, rfl⟩ := ez
                refine he _ ρ3 s7 σ3 H6 yd s8 (T1.rel.gr g6 w6) ee _ fun v H7 g7 w7 r7 => ?_
                rw [eM1] at w7 r7
                have gg7 := gg.trans g7
                obtain ⟨acc, h1, h2, L7⟩ := Lj.next (.inr rfl) hDw gg7 w7 hD r7
                have hz7 : (dj ++ [yd]).length ≤ LIM := hlen (rest := zr' ++ rest') (by
                  rw [List.append_assoc, ← List.append_assoc [yd], List.singleton_append, ← List.append_assoc, ead, List.append_assoc]
                  exact ea)
                rw [List.length_append] at hz7
                refine ⟨acc, h1, lim_lt (by simp at hz7; omega), s8, dj ++ [yd], zr', ego, by rw [List.append_assoc]; exact ead, L7, (Rj.gr gg7 (hrw w7)).touch (.inr rfl) hDw, fun a o n e => ?_⟩
                rw [upd_ne (fun z => n (by rw [z]; exact .inl (.inr rfl)))]
                exact gr_mo Lj.wm gg7 a o n (k a o n e)
            case hd =>
              rintro Hj ⟨sj, dj, zr, ez, ead, Lj, Rj, _⟩
              rw [List.drop_length] at ez
              simp only [lcGo, Option.some.injEq, Prod.mk.injEq] at ez
              obtain ⟨rfl, rfl⟩ := ez
              rw [List.append_nil] at ead
              subst ead
              exact ⟨sj, da ++ zs, rest', e6, by rw [List.append_assoc]; exact ea, (Lj.slots Rj L.mo).at⟩
          · cases er
      · have hi' : i = ds0.length := by omega
        subst hi'
        rw [List.drop_length] at er
        simp only [lc2Go, Option.some.injEq, Prod.mk.injEq] at er
        obtain ⟨rfl, rfl⟩ := er
        rw [List.append_nil] at ea
        subst ea
        obtain ⟨h1, h2⟩ := L.fin R1 hD
        exact .inl ⟨wl.walk.stops Hc hG, q _ Hc (g1.trans L.gr) h1 h2⟩
    · cases e
  · cases e
end
end K7
end
section
set_option maxRecDepth 100000
/-! K76, part h: comprehensions of dicts; built-ins; calls. -/
namespace K7
open PySem L2
/-- d[k] = True -/
def kput (ks : List Int) (i : Int) : List Int := if i ∈ ks then ks else ks ++ [i]
theorem putK_dkv (ks : List Int) (i : Int) : putK (dkv ks) (Sum.inl i : Key) (V.bl true) = dkv (kput ks i) := by
  have h1 : (dkv ks).any (fun kv => decide (kv.1 = (Sum.inl i : Key))) = decide (i ∈ ks) := by
    unfold dkv
    induction ks with
    | nil => rfl
    | cons k r ih =>
      rw [List.map_cons, List.any_cons, ih]
      by_cases e : k = i
      · subst e; simp
      · have e' : ¬ i = k := fun z => e z.symm
        simp [e, e']
  unfold putK kput
  rw [h1]
  by_cases h : i ∈ ks
  · rw [decide_eq_true h, if_pos rfl, if_pos h]
    unfold dkv
    rw [List.map_map]
    refine List.map_congr_left fun k _ => ?_
    show (if (Sum.inl k : Key) = Sum.inl i then ((Sum.inl k : Key), V.bl true) else ((Sum.inl k : Key), V.bl true)) = ((Sum.inl k : Key), V.bl true)
    split <;> rfl
  · rw [decide_eq_false h, if_neg Bool.false_ne_true, if_neg h]
    unfold dkv
    rw [List.map_append]
    rfl
theorem kput_len (ks : List Int) (i : Int) : (kput ks i).length ≤ ks.length + 1 := by
  unfold kput
  split
  · omega
  · rw [List.length_append]; simp
section
variable {W : Wd} {Mb Mb' : Addr → Prop} {ρ ρ' : List SV} {s s' : W.S} {σ σ' : L2.St} {H H' : Hp} {X : Cx} {e elt tg iter : Expr} {ifs : List Expr} {pos p : Pos}
  {wi : TI} {g : TG} {tt : TT} {te tk tv ta tb : TE} {fi : AF W.S} {gf : GF} {ft : TF W.S} {fe fk fa fb : EF W.S} {js vs : List Nat}
def dcGo {S : Type} (gf : GF) (ft : TF S) (fk : EF S) (ρ : List SV) : List D → List Int → S → Option (List Int × S)
  | [], ks, s => some (ks, s)
  | d :: ds, ks, s => (gf d ρ).bind fun ρ1 => (ft ρ1 s).bind fun p => if p.1 = true then (fk ρ1 p.2).bind fun q => match q.1 with
      | .int i => dcGo gf ft fk ρ ds (kput ks i) q.2
      | _ => none
    else dcGo gf ft fk ρ ds ks p.2
def fDc {S : Type} (fi : AF S) (gf : GF) (ft : TF S) (fk : EF S) (vs : List Nat) : EF S := fun ρ s => if vs.all (notOwn ρ) = true then (fi ρ s).bind fun p => if p.1.length ≤ LIM then (dcGo gf ft fk (wipeS ρ vs) p.1 [] p.2).map fun q => (.dic q.1, q.2) else none else none
theorem rep_dic {M : Addr → Prop} {H : Hp} {a : Addr} {ks : List Int} (n : ¬ M a) (h : H a = some (.dK (dkv ks))) : Rep M H (.dic ks) (.ref a) := by
  simp only [Rep]
  exact ⟨a, rfl, n, h⟩
structure DcAt (W : Wd) (Mb : Addr → Prop) (ρ : List SV) (σ : L2.St) (H1 : Hp) (Dl : Addr) (vs : List Nat) (s : W.S) (ks : List Int) (H : Hp) : Prop where
  dic : H Dl = some (.dK (dkv ks))
  rel : Rel W (fun a => Mb a ∨ a = Dl) (wipeS ρ vs) s (wipe σ vs) H
  mo : MO (fun a => Mb a ∨ a = Dl) (wipeS ρ vs) (wipe σ vs) = MO (fun a => Mb a ∨ a = Dl) ρ σ
  gr : Gr W H1 H
theorem de_dc (hi : DI W true wi fi) (hg : DG W js g gf) (hjs : ∀ j ∈ js, j ∈ vs) (ht : DT W tt ft) (he : DE W tk fk) : DE W (tDc wi g tt tk (tC (.bl true)) vs) (fDc fi gf ft fk vs) := by
  intro Mb ρ s σ H d s' R e Q q
  unfold fDc at e
  split at e
  · rename_i hv
    obtain ⟨⟨ds0, s1⟩, e1, e⟩ := Option.bind_eq_some_iff.mp e
    simp only at e
    split at e
    · rename_i hz
      simp only [Option.map_eq_some_iff, Prod.mk.injEq] at e
      obtain ⟨⟨ys, s2⟩, e2, rfl, rfl⟩ := e
      refine hi Mb ρ s σ H ds0 s1 R e1 _ fun J H1 G Y g1 w1 wl => ?_
      intro Dl hD
      have R1 : Rel W Mb ρ s1 σ H1 := R.gr g1 w1
      have hDw : ¬ W.at_ Dl := fun z => R1.trk Dl (R1.sub Dl z) hD
      obtain ⟨R3, eM3⟩ := (R1.base (o := .dK []) hD).wipe hv
      refine ⟨fun i m Hc => m = ds0.length - i ∧ i ≤ ds0.length ∧ ∃ (si : W.S) (ks : List Int), dcGo gf ft fk (wipeS ρ vs) (ds0.drop i) ks si = some (ys, s2) ∧ ks.length ≤ i ∧ DcAt W Mb ρ σ H1 Dl vs si ks Hc,
        ⟨ds0.length, by simp, Nat.zero_le _, s1, [], e2, Nat.le_refl _, upd_same, R3, eM3, .new hD⟩, ?_⟩
      rintro i m Hc ⟨rfl, hle, si, ks, er, hkl, L⟩
      have kp : Keeps (NN W true (MO Mb ρ σ)) H1 Hc := fun a o n e => L.gr a o (by simpa [NN] using n) e
      have hG := wl.stay Hc kp
      by_cases hlt : i < ds0.length
      · refine .inr ⟨wl.walk.goes i Hc hlt hG, fun Hn => ∃ (si : W.S) (ks : List Int), dcGo gf ft fk (wipeS ρ vs) (ds0.drop (i + 1)) ks si = some (ys, s2) ∧ ks.length ≤ i + 1 ∧ DcAt W Mb ρ σ H1 Dl vs si ks Hn, fun Hn p => ⟨ds0.length - (i + 1), by omega, rfl, hlt, p⟩, fun x H2 y => ?_⟩
        obtain ⟨xh, d, hd, rd⟩ := wl.item (MO (fun a => Mb a ∨ a = Dl) ρ σ) i Hc x H2 (fun a h => by
          rcases h with (h | h) | h
          · exact .inl (.inl h)
          · exact .inr (by rw [h]; exact hD)
          · exact .inl (.inr h)) (fun a h => L.rel.moT (by rw [L.mo]; exact h)) kp hlt (wl.walk.yields i Hc x H2 hlt hG y)
        rw [drop_of hd] at er
        simp only [dcGo, Option.bind_eq_some_iff] at er
        obtain ⟨ρ1, eg, ⟨b, s3⟩, et, er⟩ := er
        have Rx := L.rel.gr xh.gr (W.ex xh L.rel.world)
        refine hg _ _ si _ H2 x d ρ1 Rx (by rw [L.mo]; exact rd) eg _ fun σ2 T => ⟨wipe_tgt T hjs, ?_⟩
        have eM : MO (fun a => Mb a ∨ a = Dl) ρ1 σ2 = MO (fun a => Mb a ∨ a = Dl) ρ σ := (T.mo (X := fun _ => True) fun j hj => notOwn_wiped (hjs j hj)).trans L.mo
        refine ht _ ρ1 si σ2 H2 b s3 T.rel et _ fun H3 g3 w3 => ?_
        have gg : Gr W Hc H3 := xh.gr.trans g3
        cases b with
        | true =>
          simp only [if_true, Option.bind_eq_some_iff] at er
          obtain ⟨⟨yd, s4⟩, ee, er⟩ := er
          refine iteT ?_
          refine he _ ρ1 s3 σ2 H3 yd s4 (T.rel.gr g3 w3) ee _ fun v H4 g4 w4 r4 => ?_
          rw [eM] at w4 r4
          cases yd with
          | int n =>
            simp only [Rep] at r4
            subst r4
            have gg4 := gg.trans g4
            refine ⟨dkv ks, Sum.inl n, rfl, gg4 Dl _ hDw L.dic, by unfold dkv; rw [List.length_map]; exact lim_lt (by omega), s4, kput ks n, er, by have := kput_len ks n; omega, ?_, ?_, L.mo, fun a o nw e => ?_⟩
            · rw [putK_dkv]
              exact upd_same
            · exact (L.rel.gr gg4 (by rw [L.mo]; exact w4)).touch (.inr rfl) hDw
            · rw [upd_ne (ne_of_none e hD)]
              exact gg4 a o nw (L.gr a o nw e)
          | _ => cases er
        | false =>
          refine iteF ?_
          rw [eM] at w3
          have er' : dcGo gf ft fk (wipeS ρ vs) (ds0.drop (i + 1)) ks s3 = some (ys, s2) := by simpa using er
          exact ⟨s3, ks, er', by omega, gg Dl _ hDw L.dic, L.rel.gr gg (by rw [L.mo]; exact w3), L.mo, L.gr.trans gg⟩
      · have hi' : i = ds0.length := by omega
        subst hi'
        rw [List.drop_length] at er
        simp only [dcGo, Option.some.injEq, Prod.mk.injEq] at er
        obtain ⟨rfl, rfl⟩ := er
        have w := L.rel.world
        rw [L.mo] at w
        exact .inl ⟨wl.walk.stops Hc hG, q _ Hc (g1.trans L.gr) (W.more _ _ _ _ (fun a h => .inl (h.elim (fun z => .inl (.inl z)) .inr)) w) (rep_dic (fun z => R1.moT z hD) L.dic)⟩
    · cases e
  · cases e
theorem xe_dc {scope : Scope} {own : List (Str × Nat)} {kx : Expr} {j : Nat} {vp : Pos} (hc : X.calm = true) (hN : X.N.Nodup) (hi : XI W true X tg iter fi) (ok : BlkOk X.N X.env.scope scope own)
    (hg : ∀ (s : Shared) (H : Hp) (C : Addr) (cl : List (Str × Addr)) (fp : List Addr), XG W (X.blk s H scope (compEnvC scope cl C X.env) fp) tg js gf) (ht : ∀ (s : Shared) (H : Hp) (C : Addr) (cl : List (Str × Addr)) (fp : List Addr), XTs W (X.blk s H scope (compEnvC scope cl C X.env) fp) ifs ft)
    (he : ∀ (s : Shared) (H : Hp) (C : Addr) (cl : List (Str × Addr)) (fp : List Addr), XE W (X.blk s H scope (compEnvC scope cl C X.env) fp) kx fk) (hjs : ∀ j ∈ js, j ∈ own.map (·.2) := by decide) (hs : ∀ x, foldedSetIterable iter X.env x = pure x := by intro _; rfl) :
    XE W X (.DictComp kx (.Constant (.bool true) j vp) [⟨tg, iter, ifs, 0⟩] scope pos) (fDc fi gf ft fk (own.map (·.2))) :=
  ⟨pe_dc hc hN hi.p ok (fun s H C cl fp => (hg s H C cl fp).p) (fun s H C cl fp => (ht s H C cl fp).p) (fun s H C cl fp => (he s H C cl fp).p) (fun _ _ _ _ _ => pe_bl) hs,
    de_dc hi.d (hg X.s_0 (fun _ => none) 0 [] []).d hjs (ht X.s_0 (fun _ => none) 0 [] []).d (he X.s_0 (fun _ => none) 0 [] []).d⟩

/-! ### built-ins -/
variable {a b : Expr}
theorem starb (h : starEach [a] X.env = (false, eval a X.env) :: starEach [] X.env) : (backTo pos (starEach [] X.env)).any (·.1) = false := rfl
theorem xe_len (B : Bis X.mg) (ha : XW W X a fa) (hg : Gl X "len" := by rfl) (hs : starEach [a] X.env = (false, eval a X.env) :: starEach [] X.env := by rfl) : XE W X (.Call (.Name "len" p) [a] [] pos) (fUn dLen fa) :=
  ⟨pe_callB (call_len.or call_lenD) hg B.len (by decide +kernel) (pa_cons ha.p pa_nil hs) (by decide) (by decide) hs rfl, de_call1 ou_len ha.d⟩
theorem xe_abs (B : Bis X.mg) (ha : XW W X a fa) (hg : Gl X "abs" := by rfl) (hs : starEach [a] X.env = (false, eval a X.env) :: starEach [] X.env := by rfl) : XE W X (.Call (.Name "abs" p) [a] [] pos) (fUn dAbs fa) :=
  ⟨pe_callB call_abs hg B.abs (by decide +kernel) (pa_cons ha.p pa_nil hs) (by decide) (by decide) hs rfl, de_call1 ou_abs ha.d⟩
theorem xe_intc (B : Bis X.mg) (ha : XW W X a fa) (hg : Gl X "int" := by rfl) (hs : starEach [a] X.env = (false, eval a X.env) :: starEach [] X.env := by rfl) : XE W X (.Call (.Name "int" p) [a] [] pos) (fUn dToInt fa) :=
  ⟨pe_callTy call_int1 hg B.int (by decide +kernel) (pa_cons ha.p pa_nil hs) (by decide) (by decide) hs rfl, de_call1 ou_int ha.d⟩
theorem xe_tuple (B : Bis X.mg) (ha : XW W X a fa) (hg : Gl X "tuple" := by rfl) (hs : starEach [a] X.env = (false, eval a X.env) :: starEach [] X.env := by rfl) : XE W X (.Call (.Name "tuple" p) [a] [] pos) (fUn dTuple fa) :=
  ⟨pe_callTy call_tuple_of hg B.tuple (by decide +kernel) (pa_cons ha.p pa_nil hs) (by decide) (by decide) hs rfl, de_call1 ou_tuple ha.d⟩
theorem xe_list (B : Bis X.mg) (ha : XW W X a fa) (hg : Gl X "list" := by rfl) (hs : starEach [a] X.env = (false, eval a X.env) :: starEach [] X.env := by rfl) : XE W X (.Call (.Name "list" p) [a] [] pos) (fUn dList fa) :=
  ⟨pe_callTy call_list_of hg B.list (by decide +kernel) (pa_cons ha.p pa_nil hs) (by decide) (by decide) hs rfl, de_call1 ou_list ha.d⟩
theorem xe_sorted (hc : X.calm = true) (B : Bis X.mg) (ha : XW W X a fa) (hg : Gl X "sorted" := by rfl) (hs : starEach [a] X.env = (false, eval a X.env) :: starEach [] X.env := by rfl) : XE W X (.Call (.Name "sorted" p) [a] [] pos) (fUn dSorted fa) :=
  ⟨pe_callB (cr_sortedI.or (call_sortedDI hc)) hg B.sorted (by decide +kernel) (pa_cons ha.p pa_nil hs) (by decide) (by decide) hs rfl, de_call1 ou_sorted ha.d⟩
theorem xe_sum (hc : X.calm = true) (B : Bis X.mg) (ha : XW W X a fa) (hg : Gl X "sum" := by rfl) (hs : starEach [a] X.env = (false, eval a X.env) :: starEach [] X.env := by rfl) : XE W X (.Call (.Name "sum" p) [a] [] pos) (fUn dSum fa) :=
  ⟨pe_callB (cr_sum hc) hg B.sum (by decide +kernel) (pa_cons ha.p pa_nil hs) (by decide) (by decide) hs rfl, de_call1 ou_sum ha.d⟩
theorem xe_any (hc : X.calm = true) (B : Bis X.mg) (ha : XW W X a fa) (hg : Gl X "any" := by rfl) (hs : starEach [a] X.env = (false, eval a X.env) :: starEach [] X.env := by rfl) : XE W X (.Call (.Name "any" p) [a] [] pos) (fUn dAny fa) :=
  ⟨pe_callB (cr_any hc) hg B.any (by decide +kernel) (pa_cons ha.p pa_nil hs) (by decide) (by decide) hs rfl, de_call1 ou_any ha.d⟩
theorem xe_all (hc : X.calm = true) (B : Bis X.mg) (ha : XW W X a fa) (hg : Gl X "all" := by rfl) (hs : starEach [a] X.env = (false, eval a X.env) :: starEach [] X.env := by rfl) : XE W X (.Call (.Name "all" p) [a] [] pos) (fUn dAll fa) :=
  ⟨pe_callB (cr_all hc) hg B.all (by decide +kernel) (pa_cons ha.p pa_nil hs) (by decide) (by decide) hs rfl, de_call1 ou_all ha.d⟩
theorem xe_max2 (hc : X.calm = true) (B : Bis X.mg) (ha : XW W X a fa) (hb : XW W X b fb) (hg : Gl X "max" := by rfl) (hs : starEach [a, b] X.env = (false, eval a X.env) :: starEach [b] X.env := by rfl) (hs2 : starEach [b] X.env = (false, eval b X.env) :: starEach [] X.env := by rfl)
    (hpl : (backTo pos (starEach [b] X.env)).any (·.1) = false := by rfl) : XE W X (.Call (.Name "max" p) [a, b] [] pos) (fBin dMax2 fa fb) :=
  ⟨pe_callB (call_max2 hc) hg B.max (by decide +kernel) (pa_cons ha.p (pa_cons hb.p pa_nil hs2) hs) (by decide) (by decide) hs hpl, de_call2 od_max2 ha.d hb.d⟩
/-- isinstance(e, T), T a built-in class -/
def rIsi1 (K : PySem.W.Frag) (n : String) : List V → Hp → VK → Prop := fun xs H Q => match xs with
  | [x] => rIsi K [x, .ty n] H Q
  | _ => False
theorem ou_isi {K : PySem.W.Frag} {n : String} : OpU W (rIsi1 K n) (dIsi n) := by
  intro M H x dx d m r e Q q
  obtain ⟨x', h1, h2⟩ := od_isi (K := K) M H x dx d m r e Q q
  cases h1
  exact h2
theorem de_isi {K : PySem.W.Frag} {n : String} (ha : DW W ta fa) : DE W (tCB (rIsi K) (tCons ta (tCons (tC (.ty n)) tNil))) (fUn (dIsi n) fa) := by
  intro Mb ρ s σ H d s' R e Q q
  exact de_call1 (ou_isi (K := K)) ha Mb ρ s σ H d s' R e Q q
theorem xe_isi {x : Str} {n : String} {p2 : Pos} (B : Bis X.mg) (hm : X.mg x = none) (hv : bootBuiltins x = some (.type n)) (ha : XW W X a fa) (hg : Gl X "isinstance" := by rfl) (hgx : Gl X x := by rfl) (hs : starEach [a, .Name x p2] X.env = (false, eval a X.env) :: starEach [.Name x p2] X.env := by rfl)
    (hs2 : starEach [.Name x p2] X.env = (false, eval (.Name x p2) X.env) :: starEach [] X.env := by rfl) (hpl : (backTo pos (starEach [.Name x p2] X.env)).any (·.1) = false := by rfl) (hn : x ≠ "__name__" := by decide) (hd : (x == ("__debug__" : Str)) = false := by decide) :
    XE W X (.Call (.Name "isinstance" p) [a, .Name x p2] [] pos) (fUn (dIsi n) fa) :=
  ⟨pe_callB call_isi hg B.isinstance (by decide +kernel) (pa_cons ha.p (pa_cons (pe_bltn (v := .ty n) hgx hm hv rfl hn hd) pa_nil hs2) hs) (by decide) (by decide) hs hpl, de_isi ha.d⟩
theorem bv_int : bootBuiltins "int" = some (.type "int") := by decide +kernel
theorem bv_bool : bootBuiltins "bool" = some (.type "bool") := by decide +kernel
theorem bv_tuple : bootBuiltins "tuple" = some (.type "tuple") := by decide +kernel
theorem bv_str : bootBuiltins "str" = some (.type "str") := by decide +kernel
theorem bv_list : bootBuiltins "list" = some (.type "list") := by decide +kernel
/-- list(range(n)) -/
def fLRg {S : Type} (fa : EF S) : EF S := fun ρ s => (fa ρ s).bind fun p => match p.1 with
  | .int j => if 0 ≤ j ∧ j ≤ 100000 then some (.lst (rgD 0 j.toNat), p.2) else none
  | _ => none
theorem rgV_rep {M : Addr → Prop} {H : Hp} {n : Nat} : RepL M H (rgD 0 n) (rgV 0 n) := by
  unfold rgD rgV
  rw [show ((n : Int) - 0).toNat = n by omega]
  generalize List.range n = l
  induction l with
  | nil => exact .nil
  | cons k r ih => exact .cons rep_int ih
theorem xe_lrg {p1 p2 : Pos} (hc : X.calm = true) (B : Bis X.mg) (ha : XW W X a fa) (hg : Gl X "list" := by rfl) (hg2 : Gl X "range" := by rfl) (hs : starEach [a] X.env = (false, eval a X.env) :: starEach [] X.env := by rfl)
    (hs2 : starEach [.Call (.Name "range" p1) [a] [] p2] X.env = (false, eval (.Call (.Name "range" p1) [a] [] p2) X.env) :: starEach [] X.env := by rfl) :
    XE W X (.Call (.Name "list" p) [.Call (.Name "range" p1) [a] [] p2] [] pos) (fLRg fa) := by
  refine ⟨pe_listRg hc hg B.list (prg_1 hg2 B.range ha.p hs) hs2, fun Mb ρ s σ H d s' R e Q q => ?_⟩
  simp only [fLRg, Option.bind_eq_some_iff] at e
  obtain ⟨⟨dx, s1⟩, e1, e2⟩ := e
  cases dx with
  | int j =>
    simp only at e2
    split at e2
    · rename_i hj
      cases e2
      refine ha.d Mb ρ s σ H _ _ R e1 _ fun v H1 g1 w1 r1 => ⟨j, repw_int r1, RgOk.of_le (by decide) (by omega) (by decide) hj.1, ?_⟩
      have ej : j = (j.toNat : Int) := by omega
      refine new_lst (R.gr g1 w1).mok ?_ fun v H2 x2 r2 => q v H2 (g1.trans x2.gr) (W.ex x2 w1) r2
      rw [ej]
      exact rgV_rep
    · cases e2
  | _ => cases e2
/-- xs[::-1] -/
def fRev {S : Type} (fa : EF S) : EF S := fun ρ s => (fa ρ s).bind fun p => match p.1 with
  | .lst xs => some (.lst xs.reverse, p.2)
  | _ => none
theorem xe_rev {k : Nat} {p1 p2 p3 : Pos} (ha : XW W X a fa) : XE W X (.Subscript a (.Slice none none (some (.UnaryOp .USub (.Constant (.int 1) k p1) p2)) p3) pos) (fRev fa) := by
  refine ⟨pe_revL ha.p, fun Mb ρ s σ H d s' R e Q q => ?_⟩
  simp only [fRev, Option.bind_eq_some_iff] at e
  obtain ⟨⟨dx, s1⟩, e1, e2⟩ := e
  cases dx with
  | lst xs =>
    cases e2
    refine ha.d Mb ρ s σ H _ _ R e1 _ fun v H1 g1 w1 r1 => ?_
    obtain ⟨x, vs, rfl, n, h, l⟩ := repw_lst r1
    exact ⟨x, vs, rfl, .of h, new_lst (R.gr g1 w1).mok l.reverse fun v H2 x2 r2 => q v H2 (g1.trans x2.gr) (W.ex x2 w1) r2⟩
  | _ => cases e2

end
end K7
end
section
set_option maxRecDepth 100000
/-! K76, part i: enumerate, zip. -/
namespace K7
open PySem L2
/-! ### enumerate, zip -/
def sEnum {S : Type} (fa : EF S) : AF S := fun ρ s => (fa ρ s).bind fun p => (seq? p.1).map fun ds => (ds.mapIdx fun (i : Nat) d => .tup [.int i, d], p.2)
def sZip {S : Type} (fa fb : EF S) : AF S := fun ρ s => (fa ρ s).bind fun p => (fb ρ p.2).bind fun q => match p.1, q.1 with
  | .tup xs, .tup ys => some (List.zipWith (fun x y => .tup [x, y]) xs ys, q.2)
  | _, _ => none
/-- the tuple at a as it stands at each turn, each item in a new pair -/
def IteT (K : PySem.W.Frag) (a : Addr) : It :=
  ⟨fun i H => ∃ (xs : List V) (x : V), SqT K H a xs ∧ xs[i]? = some x, fun i H v H' => ∃ T x, v = .ref T ∧ H T = none ∧ H' = upd H T (.tup [.int (i : Nat), x]) ∧ ∀ xs, SqT K H a xs → xs[i]? = some x, fun i H => ∃ xs : List V, SqT K H a xs ∧ xs.length ≤ i⟩
section
open PyProof.Rows PySem.Spec
theorem pyNext_enum_endT {prog : Program} {w : World} {A : Around} {E : Value → Shared → Prop} {s : Shared} {e it l : Addr} {i : Nat} {items : Array Value} {old : Value} {Q : Option Value → Shared → Prop} (hh : A.handled = none)
    (he : IsEnum s.heap e it i old) (hit : s.heap.IsTupleIter it l i) (hl : s.heap.IsTuple l items) (hx : items[i]? = none)
    (hQ : ∀ h', Heap.ExtBut it s.heap h' → Q none { s with heap := h' }) : wpAny (model prog w) A (pyNext (.ref e)) Q E s := by
  have hT : s.TypeIs (.ref e) "enumerate" := ⟨_, he, rfl⟩
  unfold pyNext
  refine wpAny_bind (wpAny_attempt (wpAny_callSpecial?_slot (name := Str.ofString "__next__") hT F.slot_enumerate_next
    (wpAny_call_entry F.slot_enumerate_next hT F.entry_enumerate_next ?_ (F.args_enumerate_next_1 _))))
  show wpAny _ _ (field (.ref e) 2 >>= _) _ _ _
  refine wpAny_bind (wpAny_field he rfl (x := .ref it) rfl ?_)
  refine wpAny_bind (wpAny_nextOf_tuple_end hh hit hl hx fun h' x he' hx' => ?_)
  obtain ⟨o, ho, hc⟩ := hx'
  refine wpAny_bind (wpAny_isInstance (T := "StopIteration") (b := true) ⟨o, ho, hc⟩ isSubtype_stop ?_)
  exact wpAny_pure (hQ _ he')
theorem turn_enumT {P : Program} {w : World} {K : PySem.W.Frag} {elts : List Expr} {kk : Nat} {tpos : Pos} (a e it : Addr) :
    Turn P w K (.Tuple elts kk tpos) (IteT K a) [e, it] e (fun i h => (∃ old, IsEnum h e it ((i : Nat) : Int) old) ∧ h.IsTupleIter it a i ∧ e ≠ it) where
  mem := by simp
  obj := fun i h st b hb => by
    obtain ⟨⟨old, he⟩, ⟨o, ho, hc, hd⟩, _⟩ := st
    have e' : b = e ∨ b = it := by simpa using hb
    rcases e' with z | z
    · rw [z]; exact ⟨_, he, fun v q => nomatch q⟩
    · rw [z]; exact ⟨o, ho, fun v q => by rw [hd] at q; cases q⟩
  keep := fun i h h' st k => let ⟨⟨old, he⟩, hi, hne⟩ := st; ⟨⟨old, k e (by simp) _ he⟩, hi.at fun o q => k it (by simp) o q, hne⟩
  item := by
    intro X hP hw hK hc i pins s σ H E I hf st hg
    subst hP hw hK
    obtain ⟨⟨old, he⟩, hit, hne⟩ := st
    obtain ⟨xs, x, hq, hx⟩ := hg
    obtain ⟨its, rv, p, hz⟩ := I.tuple hq
    obtain ⟨u, hu, ru⟩ := rv.get hx
    have hel : e < s.heap.objs.size := Heap.lt_size he
    have hil : it < s.heap.objs.size := by obtain ⟨_, q, _⟩ := hit; exact Heap.lt_size q
    have hpt : s.heap.IsTuple a its.toArray := p
    have hae : a ≠ e := fun z => by
      obtain ⟨o, h1, h2, _⟩ := hpt
      rw [z, he] at h1
      cases h1
      exact absurd h2 (by simp)
    have hai : a ≠ it := fun z => by
      obtain ⟨o, h1, h2, n, h3⟩ := hpt
      obtain ⟨o', h1', h2', h3'⟩ := hit
      rw [z, h1'] at h1
      cases h1
      rw [h3'] at h3
      cases h3
    refine wpAny_pyNext_enum_itemD (Draws.tuple (A := X.A.in1) (I.ok.hd hc) it a hai its.toArray) he ⟨hit, hpt⟩ (by have := (List.getElem?_eq_some_iff.mp hu).1; simpa using this) hne (by simp [Ne.symm hae, hne]) fun x1 h' tk hx1 ho hst' hT hsz hk => ?_
    obtain ⟨hit', _⟩ := hst'
    have ex1 : x1 = u := by
      have z : its[i]? = some x1 := by simpa using hx1
      rw [hu] at z
      exact (Option.some.inj z).symm
    subst ex1
    refine ⟨_, rfl, wpAny_letOwnedTupleGo_enum (s := { s with heap := h', toks := tk + 1 }) ho fun h'' he' sb => ?_⟩
    have hT2 : h''.get? s.heap.objs.size = some { cls := .type "tuple", data := .seq #[.int i tk, x1] } := (sb.2 _ (Nat.ne_of_gt hel)).trans hT
    have new : ObjOk X.prog X.w (upd H s.heap.objs.size (.tup [.int (i : Nat), x])) h'' s.heap.objs.size (.tup [.int (i : Nat), x]) :=
      ⟨by show 2 ≤ sizeLine; decide, [.int i tk, x1], .cons ⟨_, rfl⟩ (.cons ru .nil), ⟨_, hT2, rfl, _, rfl⟩⟩
    have I1 : Inv X pins σ (upd H s.heap.objs.size (.tup [.int (i : Nat), x])) { s with heap := h'', toks := tk + 1 } :=
      I.turnedNew (ch := [e, it]) (fun b ob hb q => (sb.2 b (fun z => hb (by simp [z]))).trans (hk b ob (fun z => hb (by simp [z])) (fun z => hb (by simp [z])) q)) hf (Nat.le_refl _) new
    refine ⟨.ref s.heap.objs.size, _, I1, rfl, ⟨_, x, rfl, I.hok.fresh (Nat.le_refl _), rfl, fun ys hy => by rw [I.tuple_inj hy hq]; exact hx⟩, ⟨⟨x1, ?_⟩, hit'.at fun o q => (sb.2 it (Ne.symm hne)).trans q, hne⟩, fun b hb => ?_⟩
    · have e1 : ((i + 1 : Nat) : Int) = (i : Int) + 1 := by omega
      rw [e1]; exact he'
    · have hb' : b < s.heap.objs.size := by
        have e' : b = e ∨ b = it := by simpa using hb
        rcases e' with z | z
        · rw [z]; exact hel
        · rw [z]; exact hil
      rw [upd_ne (Nat.ne_of_lt hb')]
      exact (hf b hb).1
  done := by
    intro X hP hw hK hc i pins s σ H E I hf st hg
    subst hP hw hK
    obtain ⟨⟨old, he⟩, hit, hne⟩ := st
    obtain ⟨xs, hq, hx⟩ := hg
    obtain ⟨its, rv, p, hz⟩ := I.tuple hq
    obtain ⟨f0, f1, f2, f3, f4, f5⟩ := hf it (by simp)
    have hl := rv.length
    exact pyNext_enum_endT (I.ok.hd hc) he hit (show s.heap.IsTuple a its.toArray from p) (by simp; omega) fun h' eb => ⟨rfl, I.turned (t' := s.toks) (fun b o hb q => eb b o hb q) f0 f1 f3 f4 f5⟩
  self := fun A i s Q E st h => let ⟨⟨_, he⟩, _⟩ := st; wpAny_pyIter_enum he h
open Sem (wp)
open AutoSeq1 (wpAny_loadPart')
theorem meets_enumerate_newT (l : Addr) (items : Array Value) (n : Nat) (dct : Option Addr) (sl : Array (Option Value)) :
    Meets (Builtin.«enumerate.__new__» ⟨[.type "enumerate", .ref l], []⟩) (fun _ R s => s.heap.get? l = some { cls := .type "tuple", dict := dct, data := .seq items n, slots := sl } ∧
      R (.ok (.ret (.ref (s.heap.push { cls := .type "tuple_iterator", data := .fields #[.ref l, .int 0 0] }).objs.size)))
        { s with heap := (s.heap.push { cls := .type "tuple_iterator", data := .fields #[.ref l, .int 0 0] }).push { cls := .type "enumerate", data := .fields #[.none, .bool false, .ref s.heap.objs.size, rawInt 0, .none, .none] } }) :=
  .of_wp fun prog w A R s h => by
    obtain ⟨hp, g, d, tk, os⟩ := s; obtain ⟨hl, h⟩ := h
    have hsub := sub_enumerate
    have hL : Heap.IsTuple (Shared.heap ⟨hp, g, d, tk, os⟩) l items := ⟨_, hl, rfl, n, rfl⟩
    wp_walk using wpAny_loadPart' hl
    refine wpAny_stack_any fun st => wpAny_pure ?_
    split
    · rename_i c _ _ _ _ _
      cases (c == Value.type "enumerate")
      · wp_walk using wpAny_loadPart' hl, wpAny_pyIter_tuple hL
        exact ⟨_, rfl, h⟩
      · wp_walk using wpAny_loadPart' hl, wpAny_pyIter_tuple hL
        exact ⟨_, rfl, h⟩
    · wp_walk using wpAny_loadPart' hl, wpAny_pyIter_tuple hL
      exact ⟨_, rfl, h⟩
theorem call_enumerate_tuple {prog : Program} {w : World} {A : Around} {E : Value → Shared → Prop} {s : Shared} {l : Addr} {items : Array Value} {Q : Value → Shared → Prop} (hL : s.heap.IsTuple l items)
    (h : ∀ h', IsEnum h' (s.heap.objs.size + 1) s.heap.objs.size 0 .none → h'.IsTupleIter s.heap.objs.size l 0 → h'.objs.size = s.heap.objs.size + 2 →
      (∀ b o, s.heap.get? b = some o → h'.get? b = some o) → Q (.ref (s.heap.objs.size + 1)) { s with heap := h' }) :
    wpAny (model prog w) A (call (.type "enumerate") [.ref l]) Q E s := by
  obtain ⟨⟨c, dct, dt, sl⟩, hl, hc, n, hd⟩ := hL
  replace hc : c = .type "tuple" := hc
  replace hd : dt = .seq items n := hd
  subst hc hd
  refine callType_new F.called_enumerate (by decide) (F.typeCall_enumerate_1 _) (F.newCall_enumerate_1 _) (fun obj => F.args_object_init_2 obj _) F.entry_enumerate_new
    (meets_enumerate_newT l items n dct sl) ⟨hl, ?_⟩
  have hz : (s.heap.push { cls := .type "tuple_iterator", data := .fields #[.ref l, .int 0 0] }).objs.size = s.heap.objs.size + 1 := Heap.size_push ..
  show _ ∧ _
  rw [hz]
  have he : IsEnum ((s.heap.push { cls := .type "tuple_iterator", data := .fields #[.ref l, .int 0 0] }).push
      { cls := .type "enumerate", data := .fields #[.none, .bool false, .ref s.heap.objs.size, rawInt 0, .none, .none] }) (s.heap.objs.size + 1) s.heap.objs.size 0 .none := by
    have := Heap.get?_push_size (s.heap.push { cls := .type "tuple_iterator", data := .fields #[.ref l, .int 0 0] })
      (o := { cls := .type "enumerate", data := .fields #[.none, .bool false, .ref s.heap.objs.size, rawInt 0, .none, .none] }) rfl
    rw [hz] at this; exact this
  refine ⟨⟨_, he, rfl⟩, h _ he ⟨_, Heap.get?_push_of_some _ (Heap.get?_push_size _ rfl), rfl, rfl⟩ (by rw [Heap.size_push, hz]) fun b o x => Heap.get?_push_of_some _ (Heap.get?_push_of_some _ x)⟩
def iEnumA (K : PySem.W.Frag) (ta : TE) : TI := fun σ H R => ta σ H fun v H1 => ∃ a, [v] = [V.ref a] ∧ ((∃ xs, SqL K H1 a xs ∧ R (Ite K a) H1) ∨ ∃ xs, SqT K H1 a xs ∧ R (IteT K a) H1)
theorem pi_enumA {X : Cx} {e : Expr} {ta : TE} {p pos tpos : Pos} {elts : List Expr} {kk : Nat} (hg : Gl X "enumerate") (hm : X.mg "enumerate" = none) (ha : PE X e ta) (hs : starEach [e] X.env = [(false, eval e X.env)] := by rfl) :
    PI X (.Tuple elts kk tpos) (.Call (.Name "enumerate" p) [e] [] pos) (iEnumA X.K ta) := by
  refine ⟨fun pins s σ H R I h => ?_⟩
  refine Call_ (ld_blt I hg hm boot_enumerate (PyProof.Rows.callWith_type1 (thn ((pa_cons ha pa_nil hs).run pos pins s σ H (fun vs H1 => ∃ a, vs = [.ref a] ∧ ((∃ xs, SqL X.K H1 a xs ∧ R (Ite X.K a) H1) ∨ ∃ xs, SqT X.K H1 a xs ∧ R (IteT X.K a) H1)) I ?_) fun us s1 ⟨vs, H1, I1, r1, q1⟩ => ?_) hs rfl))
  · exact h
  obtain ⟨a, ex, q⟩ := q1
  subst ex
  cases r1 with
  | cons r rr =>
    cases rr
    cases r
    have fp : ∀ b ∈ [s1.heap.objs.size + 1, s1.heap.objs.size], FpOk X pins H1 b := fun b hb => by
      have e' : b = s1.heap.objs.size + 1 ∨ b = s1.heap.objs.size := by simpa using hb
      have hle : s1.heap.objs.size ≤ b := by
        rcases e' with z | z
        · rw [z]; exact Nat.le_add_right _ _
        · rw [z]; exact Nat.le_refl _
      exact I1.fpOk hle (I1.hok.fresh hle)
    rcases q with ⟨xs, hq, q⟩ | ⟨xs, hq, q⟩
    · obtain ⟨its, rv, p', hz⟩ := I1.list hq
      refine call_enumerate_list p'.isList fun h' he hit hsz hk => wpAny_pyIter_enum he ?_
      have I2 : Inv X pins σ H1 { s1 with heap := h' } := I1.kept (t' := s1.toks) hk
      exact ⟨s1.heap.objs.size + 1, [s1.heap.objs.size + 1, s1.heap.objs.size], _, _, H1, rfl, I2, turn_enum a (s1.heap.objs.size + 1) s1.heap.objs.size, ⟨⟨.none, he⟩, hit, Nat.succ_ne_self _⟩, fp, q⟩
    · obtain ⟨its, rv, p', hz⟩ := I1.tuple hq
      refine call_enumerate_tuple (show s1.heap.IsTuple a its.toArray from p') fun h' he hit hsz hk => wpAny_pyIter_enum he ?_
      have I2 : Inv X pins σ H1 { s1 with heap := h' } := I1.kept (t' := s1.toks) hk
      exact ⟨s1.heap.objs.size + 1, [s1.heap.objs.size + 1, s1.heap.objs.size], _, _, H1, rfl, I2, turn_enumT a (s1.heap.objs.size + 1) s1.heap.objs.size, ⟨⟨.none, he⟩, hit, Nat.succ_ne_self _⟩, fp, q⟩
end
section
variable {W : Wd} {X : Cx} {a b : Expr} {ta tb : TE} {fa fb : EF W.S} {p pos tpos : Pos} {elts : List Expr} {kk : Nat}
theorem walk_enumT {K : PySem.W.Frag} {a : Addr} {xs : List V} : L2.Walk (IteT K a) xs.length (fun H => SqT K H a xs) (YPair (fun i => some (.int (i : Nat))) (fun i => xs[i]?)) := by
  refine ⟨fun i _ hi q => ⟨xs, xs[i], q, by simp [hi]⟩, fun _ q => ⟨xs, q, Nat.le_refl _⟩, fun i H v H' _ q y => ?_⟩
  obtain ⟨T, x, h1, h2, h3, h4⟩ := y
  exact ⟨T, .int (i : Nat), x, h1, h2, h3, rfl, h4 xs q⟩
theorem walk_zipT {K : PySem.W.Frag} {a b : Addr} {xs ys : List V} {n : Nat} (hn : n = min xs.length ys.length) : L2.Walk (RZ.ItzT K a b) n (fun H => SqT K H a xs ∧ SqT K H b ys) (YPair (fun i => xs[i]?) (fun i => ys[i]?)) := by
  subst hn
  refine ⟨fun i _ hi q => ?_, fun _ q => ⟨xs, ys, q.1, q.2, by omega⟩, fun i H v H' _ q y => ?_⟩
  · have h1 : i < xs.length := by omega
    have h2 : i < ys.length := by omega
    exact ⟨xs, ys, xs[i], ys[i], q.1, q.2, by simp [h1], by simp [h2]⟩
  · obtain ⟨T, x, z, h1, h2, h3, h4, h5⟩ := y
    exact ⟨T, x, z, h1, h2, h3, h4 xs q.1, h5 ys q.2⟩
/-- new pairs of what stands -/
theorem wlk_pair {wk : Bool} {M : Addr → Prop} {ds : List D} {J : It} {H : Hp} {G : Hp → Prop} {fx fy : Nat → Option V} (hw : ∀ a, W.at_ a → M a) (w : L2.Walk J ds.length G (YPair fx fy)) (hG : ∀ H1, Keeps (NN W wk M) H H1 → G H1)
    (hi : ∀ i x y, fx i = some x → fy i = some y → i < ds.length → ∃ dx dy, ds[i]? = some (.tup [dx, dy]) ∧ Rep M H dx x ∧ Rep M H dy y) : Wlk W wk M ds J H G (YPair fx fy) where
  walk := w
  stay := hG
  item := fun M' i H1 v H2 m t k hlt y => by
    obtain ⟨T, x, y, rfl, hT, rfl, h1, h2⟩ := y
    obtain ⟨dx, dy, e, r1, r2⟩ := hi i x y h1 h2 hlt
    have g := keeps_gr hw k
    exact ⟨.new hT, _, e, rep_tup (fun z => t T z hT) upd_same (.cons ((r1.step g m).ex (.new hT)) (.cons ((r2.step g m).ex (.new hT)) .nil))⟩
theorem di_enumW {K : PySem.W.Frag} (h : DW W ta fa) : DI W true (iEnumA K ta) (sEnum fa) := by
  intro Mb ρ s σ H ds s' R e Rk q
  simp only [sEnum, Option.bind_eq_some_iff, Option.map_eq_some_iff, Prod.mk.injEq] at e
  obtain ⟨⟨d, s1⟩, e1, ds', e2, rfl, rfl⟩ := e
  have key : ∀ {M : Addr → Prop} {H1 : Hp} {vs : List V}, RepL M H1 ds' vs → ∀ i x y, (some (V.int (i : Nat))) = some x → vs[i]? = some y → i < (ds'.mapIdx fun (i : Nat) d => D.tup [.int i, d]).length → ∃ dx dy, (ds'.mapIdx fun (i : Nat) d => D.tup [.int i, d])[i]? = some (.tup [dx, dy]) ∧ Rep M H1 dx x ∧ Rep M H1 dy y := fun {M H1 vs} l i x y h1 h2 _ => by
    obtain ⟨d, hd, r⟩ := l.getV h2
    cases h1
    exact ⟨.int i, d, by rw [List.getElem?_mapIdx, hd]; rfl, rep_int, r⟩
  cases d with
  | tup xs =>
    cases e2
    refine h Mb ρ s σ H _ _ R e1 _ fun v H1 g1 w1 r1 => ?_
    obtain ⟨p, vs, rfl, n, hp, l⟩ := repw_tup r1
    refine ⟨p, rfl, .inr ⟨vs, .of hp, q _ H1 _ _ g1 w1 (wlk_pair R.watM (by rw [List.length_mapIdx, ← l.length]; exact walk_enumT (K := K) (a := p)) (fun H2 k => SqT.of (k p _ (by unfold NN; simp; exact fun z => n (R.watM p z)) hp)) (key l))⟩⟩
  | lst xs =>
    cases e2
    refine h Mb ρ s σ H _ _ R e1 _ fun v H1 g1 w1 r1 => ?_
    obtain ⟨p, vs, rfl, n, hp, l⟩ := repw_lst r1
    refine ⟨p, rfl, .inl ⟨vs, .of hp, q _ H1 _ _ g1 w1 (wlk_pair R.watM (by rw [List.length_mapIdx, ← l.length]; exact walk_enum (K := K) (a := p)) (fun H2 k => SqL.of (k p _ (by unfold NN; simp; exact n) hp)) (key l))⟩⟩
  | _ => cases e2
theorem di_enumS {K : PySem.W.Frag} (h : DE W ta fa) : DI W false (iEnumA K ta) (sEnum fa) := by
  intro Mb ρ s σ H ds s' R e Rk q
  simp only [sEnum, Option.bind_eq_some_iff, Option.map_eq_some_iff, Prod.mk.injEq] at e
  obtain ⟨⟨d, s1⟩, e1, ds', e2, rfl, rfl⟩ := e
  have key : ∀ {M : Addr → Prop} {H1 : Hp} {vs : List V}, RepL M H1 ds' vs → ∀ i x y, (some (V.int (i : Nat))) = some x → vs[i]? = some y → i < (ds'.mapIdx fun (i : Nat) d => D.tup [.int i, d]).length → ∃ dx dy, (ds'.mapIdx fun (i : Nat) d => D.tup [.int i, d])[i]? = some (.tup [dx, dy]) ∧ Rep M H1 dx x ∧ Rep M H1 dy y := fun {M H1 vs} l i x y h1 h2 _ => by
    obtain ⟨d, hd, r⟩ := l.getV h2
    cases h1
    exact ⟨.int i, d, by rw [List.getElem?_mapIdx, hd]; rfl, rep_int, r⟩
  cases d with
  | tup xs =>
    cases e2
    refine h Mb ρ s σ H _ _ R e1 _ fun v H1 g1 w1 r1 => ?_
    simp only [Rep] at r1
    obtain ⟨p, vs, rfl, n, hp, l⟩ := r1
    refine ⟨p, rfl, .inr ⟨vs, .of hp, q _ H1 _ _ g1 w1 (wlk_pair R.watM (by rw [List.length_mapIdx, ← l.length]; exact walk_enumT (K := K) (a := p)) (fun H2 k => SqT.of (k p _ (by unfold NN; simp; exact n) hp)) (key l))⟩⟩
  | lst xs =>
    cases e2
    refine h Mb ρ s σ H _ _ R e1 _ fun v H1 g1 w1 r1 => ?_
    simp only [Rep] at r1
    obtain ⟨p, vs, rfl, n, hp, l⟩ := r1
    refine ⟨p, rfl, .inl ⟨vs, .of hp, q _ H1 _ _ g1 w1 (wlk_pair R.watM (by rw [List.length_mapIdx, ← l.length]; exact walk_enum (K := K) (a := p)) (fun H2 k => SqL.of (k p _ (by unfold NN; simp; exact n) hp)) (key l))⟩⟩
  | _ => cases e2
theorem xi_enumW (B : Bis X.mg) (h : XW W X a fa) (hg : Gl X "enumerate" := by rfl) (hs : starEach [a] X.env = [(false, eval a X.env)] := by rfl) : XI W true X (.Tuple elts kk tpos) (.Call (.Name "enumerate" p) [a] [] pos) (sEnum fa) := ⟨pi_enumA hg B.enumerate h.p hs, di_enumW h.d⟩
theorem xi_enumS (B : Bis X.mg) (h : XE W X a fa) (hg : Gl X "enumerate" := by rfl) (hs : starEach [a] X.env = [(false, eval a X.env)] := by rfl) : XI W false X (.Tuple elts kk tpos) (.Call (.Name "enumerate" p) [a] [] pos) (sEnum fa) := ⟨pi_enumA hg B.enumerate h.p hs, di_enumS h.d⟩
theorem di_zip {K : PySem.W.Frag} (h : DE W ta fa) (h' : DE W tb fb) : DI W true (RZ.iZipA K (tCons ta (tCons tb tNil))) (sZip fa fb) := by
  intro Mb ρ s σ H ds s' R e Rk q
  simp only [sZip, Option.bind_eq_some_iff] at e
  obtain ⟨⟨d, s1⟩, e1, ⟨d', s2⟩, e2, e3⟩ := e
  cases d with
  | tup xs =>
    cases d' with
    | tup ys =>
      cases e3
      refine h Mb ρ s σ H _ _ R e1 _ fun v H1 g1 w1 r1 => ?_
      refine h' Mb ρ s1 σ H1 _ _ (R.gr g1 w1) e2 _ fun v' H2 g2 w2 r2 => ?_
      have r1' := r1.grow (gr_mo R.watM g2)
      simp only [Rep] at r1' r2
      obtain ⟨p, vs, rfl, n, hp, l⟩ := r1'
      obtain ⟨p', us, rfl, n', hp', l'⟩ := r2
      refine ⟨p, p', vs, us, rfl, .inr ⟨.of hp, .of hp', q _ H2 _ _ (g1.trans g2) w2 (wlk_pair R.watM (walk_zipT (K := K) (a := p) (b := p') (xs := vs) (ys := us) (by rw [List.length_zipWith, l.length, l'.length])) (fun H3 k => ?_) fun i x y h1 h2 _ => ?_)⟩⟩
      · exact ⟨.of (k p _ (by unfold NN; simp; exact fun z => n (R.watM p z)) hp), .of (k p' _ (by unfold NN; simp; exact fun z => n' (R.watM p' z)) hp')⟩
      · obtain ⟨dx, hdx, rx⟩ := l.getV h1
        obtain ⟨dy, hdy, ry⟩ := l'.getV h2
        exact ⟨dx, dy, by rw [List.getElem?_zipWith, hdx, hdy], rx, ry⟩
    | _ => cases e3
  | _ => cases e3
theorem xi_zip (B : Bis X.mg) (h : XE W X a fa) (h' : XE W X b fb) (hg : Gl X "zip" := by rfl) (hs : starEach [a, b] X.env = (false, eval a X.env) :: starEach [b] X.env := by rfl) (hs2 : starEach [b] X.env = (false, eval b X.env) :: starEach [] X.env := by rfl) (hpl : (backTo pos (starEach [b] X.env)).any (·.1) = false := by rfl) :
    XI W true X (.Tuple elts kk tpos) (.Call (.Name "zip" p) [a, b] [] pos) (sZip fa fb) := ⟨RZ.pi_zipA hg B.zip (pa_cons h.p (pa_cons h'.p pa_nil hs2) hs) hs hpl, di_zip h.d h'.d⟩
end
end K7
end
section
set_option maxRecDepth 100000
/-! K76, part j: calls, statements. -/
namespace K7
open PySem L2

/-! ### calls of defs that change nothing -/
def spP (n : Nat) (m : List D → Option D) : Sp := fun vs H Q _ => ∃ (Mb : Addr → Prop) (ds : List D) (d : D), ds.length = n ∧ (∀ a, Mb a → H a ≠ none) ∧ RepL Mb H ds vs ∧ m ds = some d ∧ ∀ v H', Exh H H' → Rep Mb H' d v → Q v H'
structure CalP (P : Program) (w : World) (K : PySem.W.Frag) (mg : Str → Option Value) (base : Heap) (k : Nat) (x : Str) (n : Nat) (m : List D → Option D) : Prop where
  ex : ∃ (f : Addr) (fd : FuncData) (ps : List Str), ps.length = n ∧ FnOk P w K mg base CX0 k f fd ps (spP n m) ∧ mg x = some (.ref f) ∧ PySem.W.keepIn K (.ref f) = true ∧ Binds K fd ps []
theorem CalP.mono {P : Program} {w : World} {K : PySem.W.Frag} {mg : Str → Option Value} {base : Heap} {j k : Nat} {x : Str} {n : Nat} {m : List D → Option D} (C : CalP P w K mg base j x n m) (h : j ≤ k) : CalP P w K mg base k x n m := by
  obtain ⟨f, fd, ps, h1, h2, h3, h4, h5⟩ := C.ex
  exact ⟨f, fd, ps, h1, h2.mono h, h3, h4, h5⟩
def fCall {S : Type} (n : Nat) (m : List D → Option D) (fs : AF S) : EF S := fun ρ s => (fs ρ s).bind fun p => if p.1.length = n then (m p.1).map fun d => (d, p.2) else none
section
variable {W : Wd} {X : Cx} {e : Expr} {es : List Expr} {ta : TA} {te : TE} {fs : AF W.S} {fe : EF W.S} {pos p : Pos}
theorem de_callP {n : Nat} {m : List D → Option D} (ha : DA W ta fs) : DE W (tCall (spP n m) [] E0 ta) (fCall n m fs) := by
  intro Mb ρ s σ H d s' R e Q q
  simp only [fCall, Option.bind_eq_some_iff] at e
  obtain ⟨⟨ds, s1⟩, e1, e2⟩ := e
  split at e2
  · rename_i hn
    obtain ⟨d', e3, e4⟩ := Option.map_eq_some_iff.mp e2
    cases e4
    refine ha Mb ρ s σ H ds _ R e1 _ fun vs H1 g1 w1 r1 => ?_
    have R1 := R.gr g1 w1
    show spP n m (vs ++ []) H1 Q E0
    rw [List.append_nil]
    exact ⟨MO Mb ρ σ, ds, d, hn, fun a => R1.moT, r1, e3, fun v H2 x2 r2 => q v H2 (g1.trans x2.gr) (W.ex x2 w1) r2⟩
  · cases e2
theorem xe_call {k n : Nat} {x : Str} {m : List D → Option D} (C : CalP X.prog X.w X.K X.mg X.base k x n m) (hr : Room k X.A) (ha : XA W X (e :: es) fs) (hg : Gl X x := by rfl)
    (hdb : (x == ("__debug__" : Str)) = false := by decide) (he : starEach (e :: es) X.env = (false, eval e X.env) :: starEach es X.env := by rfl) (hpl : (backTo pos (starEach es X.env)).any (·.1) = false := by rfl) :
    XE W X (.Call (.Name x p) (e :: es) [] pos) (fCall n m fs) := by
  obtain ⟨f, fd, ps, h1, h2, h3, h4, h5⟩ := C.ex
  exact ⟨pe_call h2 hr hg h3 h4 h5 .nil pass0 ha.p hdb he hpl, de_callP ha.d⟩
end
/-! ### calls of defs that change the world -/
def spW {Ω : Type} (F : Ω → Wd) (n : Nat) (m : ∀ ω, List D → (F ω).S → Option (D × (F ω).S)) : Sp := fun vs H Q _ => ∃ (ω : Ω) (Mb : Addr → Prop) (ds : List D) (d : D) (s s' : (F ω).S), ds.length = n ∧ (∀ a, (F ω).at_ a → Mb a) ∧ (∀ a, Mb a → H a ≠ none) ∧
  (F ω).rel Mb s H ∧ RepL Mb H ds vs ∧ m ω ds s = some (d, s') ∧ ∀ v H', Gr (F ω) H H' → (F ω).rel Mb s' H' → Rep Mb H' d v → Q v H'
structure CalW (P : Program) (w : World) (K : PySem.W.Frag) (mg : Str → Option Value) (base : Heap) (k : Nat) (x : Str) (n : Nat) {Ω : Type} (F : Ω → Wd) (m : ∀ ω, List D → (F ω).S → Option (D × (F ω).S)) : Prop where
  ex : ∃ (f : Addr) (fd : FuncData) (ps : List Str), ps.length = n ∧ FnOk P w K mg base CX0 k f fd ps (spW F n m) ∧ mg x = some (.ref f) ∧ PySem.W.keepIn K (.ref f) = true ∧ Binds K fd ps []
theorem CalW.mono {P : Program} {w : World} {K : PySem.W.Frag} {mg : Str → Option Value} {base : Heap} {j k : Nat} {x : Str} {n : Nat} {Ω : Type} {F : Ω → Wd} {m : ∀ ω, List D → (F ω).S → Option (D × (F ω).S)} (C : CalW P w K mg base j x n F m) (h : j ≤ k) : CalW P w K mg base k x n F m := by
  obtain ⟨f, fd, ps, h1, h2, h3, h4, h5⟩ := C.ex
  exact ⟨f, fd, ps, h1, h2.mono h, h3, h4, h5⟩
def fCallW {S : Type} (n : Nat) (m : List D → S → Option (D × S)) (fs : AF S) : EF S := fun ρ s => (fs ρ s).bind fun p => if p.1.length = n then m p.1 p.2 else none
section
variable {Ω : Type} {F : Ω → Wd} {ω : Ω} {X : Cx} {e : Expr} {es : List Expr} {ta : TA} {te : TE} {fs : AF (F ω).S} {pos p : Pos}
theorem de_callW {n : Nat} {m : ∀ ω, List D → (F ω).S → Option (D × (F ω).S)} (ha : DA (F ω) ta fs) : DE (F ω) (tCall (spW F n m) [] E0 ta) (fCallW n (m ω) fs) := by
  intro Mb ρ s σ H d s' R e Q q
  simp only [fCallW, Option.bind_eq_some_iff] at e
  obtain ⟨⟨ds, s1⟩, e1, e2⟩ := e
  split at e2
  · rename_i hn
    refine ha Mb ρ s σ H ds _ R e1 _ fun vs H1 g1 w1 r1 => ?_
    have R1 := R.gr g1 w1
    show spW F n m (vs ++ []) H1 Q E0
    rw [List.append_nil]
    exact ⟨ω, MO Mb ρ σ, ds, d, s1, s', hn, R.watM, fun a => R1.moT, w1, r1, e2, fun v H2 g2 w2 r2 => q v H2 (g1.trans g2) w2 r2⟩
  · cases e2
theorem xe_callW {k n : Nat} {x : Str} {m : ∀ ω, List D → (F ω).S → Option (D × (F ω).S)} (C : CalW X.prog X.w X.K X.mg X.base k x n F m) (hr : Room k X.A) (ha : XA (F ω) X (e :: es) fs) (hg : Gl X x := by rfl)
    (hdb : (x == ("__debug__" : Str)) = false := by decide) (he : starEach (e :: es) X.env = (false, eval e X.env) :: starEach es X.env := by rfl) (hpl : (backTo pos (starEach es X.env)).any (·.1) = false := by rfl) :
    XE (F ω) X (.Call (.Name x p) (e :: es) [] pos) (fCallW n (m ω) fs) := by
  obtain ⟨f, fd, ps, h1, h2, h3, h4, h5⟩ := C.ex
  exact ⟨pe_call h2 hr hg h3 h4 h5 .nil pass0 ha.p hdb he hpl, de_callW ha.d⟩
end

/-! ### statements -/
inductive Out (S : Type) where
  | nx (ρ : List SV) (s : S) | rt (d : D) (s : S) | np (why : Str) (s : S) | no
abbrev SF (S : Type) := List SV → S → Out S
def GrO (W : Wd) (ρ : List SV) (σ : L2.St) (H H' : Hp) : Prop := ∀ a o, ¬ W.at_ a → ¬ OwnAt ρ σ a → H a = some o → H' a = some o
def OwnN (ρ : List SV) (σ : L2.St) (H : Hp) (ρ' : List SV) (σ' : L2.St) : Prop := ∀ a, OwnAt ρ' σ' a → OwnAt ρ σ a ∨ H a = none
/-- what is wanted of an exception: its word, its dict -/
abbrev NX := Str → Addr → Hp → Prop
def Post (W : Wd) (EX : NX) (Mb : Addr → Prop) (ρ : List SV) (σ : L2.St) (H : Hp) (D : Ends) : Out W.S → Prop
  | .nx ρ' s' => ∀ σ' H', GrO W ρ σ H H' → OwnN ρ σ H ρ' σ' → Rel W Mb ρ' s' σ' H' → D.nx σ' H'
  | .rt d s' => ∀ v H', GrO W ρ σ H H' → W.rel Mb s' H' → Rep Mb H' d v → D.rt v H'
  | .np why s' => ∀ dx H', GrO W ρ σ H H' → W.rel Mb s' H' → H' dx = some (.xd [("why", .str why)]) → EX why dx H'
  | .no => False
def DS (W : Wd) (EX : NX) (t : TS) (f : SF W.S) : Prop := ∀ (Mb : Addr → Prop) (ρ : List SV) (s : W.S) (σ : L2.St) (H : Hp) (D : Ends), Rel W Mb ρ s σ H → Post W EX Mb ρ σ H D (f ρ s) → t D σ H
inductive XS (W : Wd) (EX : NX) (X : Cx) (st : Stmt) (f : SF W.S) : Prop where
  | mk {t : TS} (p : PS X st t) (d : DS W EX t f) : XS W EX X st f
inductive XSs (W : Wd) (EX : NX) (X : Cx) (st : List Stmt) (f : SF W.S) : Prop where
  | mk {t : TS} (p : PSs X st t) (d : DS W EX t f) : XSs W EX X st f
def tOfS (W : Wd) (EX : NX) (f : SF W.S) : TS := fun D σ H => ∃ (Mb : Addr → Prop) (ρ : List SV) (s : W.S), Rel W Mb ρ s σ H ∧ Post W EX Mb ρ σ H D (f ρ s)
theorem XS.p {W : Wd} {EX : NX} {X : Cx} {st : Stmt} {f : SF W.S} (h : XS W EX X st f) : PS X st (tOfS W EX f) := by
  obtain ⟨p, d⟩ := h
  exact ⟨fun pins s σ H D I ⟨Mb, ρ, s0, R, q⟩ => p.run pins s σ H D I (d Mb ρ s0 σ H D R q)⟩
theorem XS.d {W : Wd} {EX : NX} {X : Cx} {st : Stmt} {f : SF W.S} (_ : XS W EX X st f) : DS W EX (tOfS W EX f) f := fun Mb ρ s σ H D R q => ⟨Mb, ρ, s, R, q⟩
theorem XSs.p {W : Wd} {EX : NX} {X : Cx} {st : List Stmt} {f : SF W.S} (h : XSs W EX X st f) : PSs X st (tOfS W EX f) := by
  obtain ⟨p, d⟩ := h
  exact ⟨fun pins s σ H D I ⟨Mb, ρ, s0, R, q⟩ => p.run pins s σ H D I (d Mb ρ s0 σ H D R q)⟩
theorem XSs.d {W : Wd} {EX : NX} {X : Cx} {st : List Stmt} {f : SF W.S} (_ : XSs W EX X st f) : DS W EX (tOfS W EX f) f := fun Mb ρ s σ H D R q => ⟨Mb, ρ, s, R, q⟩
section
variable {W : Wd} {EX : NX} {Mb : Addr → Prop} {ρ ρ' : List SV} {s s' : W.S} {σ σ' : L2.St} {H H' : Hp} {E : Ends}
theorem GrO.refl : GrO W ρ σ H H := fun _ _ _ _ e => e
theorem GrO.of (g : Gr W H H') : GrO W ρ σ H H' := fun a o n _ e => g a o n e
theorem OwnN.refl : OwnN ρ σ H ρ σ := fun _ h => .inl h
theorem GrO.comp {H2 : Hp} (g : GrO W ρ σ H H') (n : OwnN ρ σ H ρ' σ') (g2 : GrO W ρ' σ' H' H2) : GrO W ρ σ H H2 := fun a o nw no e =>
  g2 a o nw (fun z => (n a z).elim no fun y => by rw [e] at y; cases y) (g a o nw no e)
theorem Post.comp {o : Out W.S} (g : GrO W ρ σ H H') (n : OwnN ρ σ H ρ' σ') (h : Post W EX Mb ρ σ H E o) : Post W EX Mb ρ' σ' H' E o := by
  cases o with
  | nx ρ2 s2 => exact fun σ2 H2 g2 n2 R2 => h σ2 H2 (g.comp n g2) (fun a z => (n2 a z).elim (fun y => n a y) fun y => by
      by_cases q : OwnAt ρ σ a
      · exact .inl q
      · cases hh : H a with
        | none => exact .inr rfl
        | some o =>
          by_cases hw : W.at_ a
          · exact absurd z (fun z => R2.ownW z hw)
          · rw [g a o hw q hh] at y
            cases y) R2
  | rt d s2 => exact fun v H2 g2 w2 r2 => h v H2 (g.comp n g2) w2 r2
  | np why s2 => exact fun dx H2 g2 w2 r2 => h dx H2 (g.comp n g2) w2 r2
  | no => exact h
theorem Rel.base_rel (R : Rel W Mb ρ s σ H) (w : W.rel (MO Mb ρ σ) s' H') : W.rel Mb s' H' := W.more _ _ _ _ (fun a h => .inl (.inl h)) w
variable {X : Cx} {st : Stmt} {rest sts sts' : List Stmt} {t u : TS} {f g : SF W.S} {e c : Expr} {es : List Expr} {te : TE} {tc : TT} {ta : TA} {fe : EF W.S} {fc : TF W.S} {fs : AF W.S} {pos pos' p1 p2 : Pos} {gt : TG} {gf : GF} {js : List Nat}
def fNext {S : Type} : SF S := fun ρ s => .nx ρ s
def fSeq {S : Type} (f g : SF S) : SF S := fun ρ s => match f ρ s with
  | .nx ρ' s' => g ρ' s'
  | .rt d s' => .rt d s'
  | .np y s' => .np y s'
  | .no => .no
theorem ds_next : DS W EX tNext fNext := fun Mb ρ s σ H E R q => q σ H .refl .refl R
theorem ds_seq (hf : DS W EX t f) (hg : DS W EX u g) : DS W EX (tSeq t u) (fSeq f g) := by
  intro Mb ρ s σ H E R q
  refine hf Mb ρ s σ H { E with nx := u E } R ?_
  unfold fSeq at q
  cases hfr : f ρ s with
  | nx ρ' s' =>
    rw [hfr] at q
    exact fun σ' H' g1 n1 R1 => hg Mb ρ' s' σ' H' E R1 (Post.comp g1 n1 q)
  | rt d s' =>
    rw [hfr] at q
    exact q
  | np y s' =>
    rw [hfr] at q
    exact q
  | no =>
    rw [hfr] at q
    exact q
theorem xs_nil : XSs W EX X [] fNext := ⟨pss_nil, ds_next⟩
theorem xs_cons (h1 : XS W EX X st f) (h2 : XSs W EX X rest g) : XSs W EX X (st :: rest) (fSeq f g) := ⟨pss_cons h1.p h2.p, ds_seq h1.d h2.d⟩
theorem xs_one (h1 : XS W EX X st f) : XSs W EX X [st] f := ⟨pss_one h1.p, h1.d⟩
/-! return -/
def fRet {S : Type} (fe : EF S) : SF S := fun ρ s => match fe ρ s with
  | some (d, s') => .rt d s'
  | none => .no
theorem ds_ret (h : DE W te fe) : DS W EX (tRet te) (fRet fe) := by
  intro Mb ρ s σ H E R q
  unfold fRet at q
  split at q
  · rename_i d s' e
    exact h Mb ρ s σ H d s' R e E.rt fun v H1 g1 w1 r1 => q v H1 (.of g1) (R.base_rel w1) (r1.more fun a h => .inl (.inl h))
  · exact q.elim
theorem xs_ret (h : XE W X e fe) : XS W EX X (.Return (some e) pos) (fRet fe) := ⟨ps_ret h.p, ds_ret h.d⟩
/-- return x, x a slot's own list -/
def fRetO {S : Type} (i : Nat) : SF S := fun ρ s => match ρ[i]? with
  | some (.ow ds) => .rt (.lst ds) s
  | some (.im d) => .rt d s
  | _ => .no
theorem ds_retO {i : Nat} : DS W EX (tRet (tVar i)) (fRetO i) := by
  intro Mb ρ s σ H E R q
  unfold fRetO at q
  split at q
  · rename_i ds h
    obtain ⟨o, h1, x, vs, rfl, h2, r⟩ := slot_get R h
    exact ⟨.ref x, h1, q _ H .refl (R.base_rel R.world) (rep_lst (R.ofr x ⟨i, ⟨_, h, rfl⟩, h1⟩) h2 (r.more fun a h => .inl (.inl h)))⟩
  · rename_i d h
    obtain ⟨o, h1, v, rfl, r⟩ := slot_get R h
    exact ⟨v, h1, q _ H .refl (R.base_rel R.world) (r.more fun a h => .inl (.inl h))⟩
  · exact q.elim
theorem xs_retO (i : Nat) {x : Str} (hN : X.N[i]? = some x := by rfl) (hv : Vis X.env.scope x := by first | exact Or.inl rfl | exact Or.inr (Or.inl rfl) | exact Or.inr (Or.inr rfl)) (hd : (x == ("__debug__" : Str)) = false := by decide)
    (hcd : (x == ("__classdict__" : Str)) = false := by decide) : XS W EX X (.Return (some (.Name x p1)) pos) (fRetO i) := ⟨ps_ret (pe_var hN hv hd hcd), ds_retO⟩
/-! if -/
def fIf {S : Type} (fc : TF S) (f g : SF S) : SF S := fun ρ s => match fc ρ s with
  | some (b, s') => if b = true then f ρ s' else g ρ s'
  | none => .no
theorem ds_if (hc : DT W tc fc) (hf : DS W EX t f) (hg : DS W EX u g) : DS W EX (tIfS tc t u) (fIf fc f g) := by
  intro Mb ρ s σ H E R q
  unfold fIf at q
  split at q
  · rename_i b s' e
    refine hc Mb ρ s σ H b s' R e _ fun H1 g1 w1 => ?_
    have R1 := R.gr g1 w1
    cases b with
    | true => exact iteT (hf Mb ρ s' σ H1 E R1 (Post.comp (.of g1) .refl (by simpa using q)))
    | false => exact iteF (hg Mb ρ s' σ H1 E R1 (Post.comp (.of g1) .refl (by simpa using q)))
  · exact q.elim
theorem xs_if (hc : XT W X c fc) (hf : XSs W EX X sts f) (hg : XSs W EX X sts' g) : XS W EX X (.If c sts sts' pos) (fIf fc f g) := ⟨ps_if hc.p hf.p hg.p, ds_if hc.d hf.d hg.d⟩
/-! stores -/
def fAsg {S : Type} (fe : EF S) (gf : GF) : SF S := fun ρ s => match fe ρ s with
  | some (d, s') => match gf d ρ with
    | some ρ' => .nx ρ' s'
    | none => .no
  | none => .no
theorem ds_asg (he : DE W te fe) (hg : DG W js gt gf) : DS W EX (tAsg te gt) (fAsg fe gf) := by
  intro Mb ρ s σ H E R q
  unfold fAsg at q
  split at q
  · rename_i d s' e
    split at q
    · rename_i ρ' e2
      refine he Mb ρ s σ H d s' R e _ fun v H1 g1 w1 r1 => ?_
      exact hg Mb ρ s' σ H1 v d ρ' (R.gr g1 w1) r1 e2 _ fun σ2 T => q σ2 H1 (.of g1) (fun a h => .inl (T.own a h)) T.rel
    · exact q.elim
  · exact q.elim
theorem xs_set (i : Nat) {x : Str} (hN : X.N.Nodup) (he : XE W X e fe) (hi : X.N[i]? = some x := by rfl) (hx : Loc X.env.scope x := by first | exact Or.inl rfl | exact Or.inr rfl) (hs : swapsWith e (some (.Name x pos')) pos.line X.env = pure false := by rfl)
    (hf : X.fn x = true ∨ X.env.scope.names.lookup x = some .local := by first | exact .inl rfl | exact .inr rfl) : XS W EX X (.Assign [.Name x pos'] e pos) (fAsg fe (gN i)) := ⟨ps_set hN hi hx he.p hs hf, ds_asg he.d dg_n⟩
theorem xs_asg {tg : Expr} (he : XE W X e fe) (hg : XG W X tg js gf) (hs : swapsWithSole [tg] e pos.line X.env = pure false := by rfl) (hw : swappedStores [tg] e X.env = pure none := by rfl) (h1 : (assignEach [tg] X.env).map (·.2) = [assign tg X.env] := by rfl) :
    XS W EX X (.Assign [tg] e pos) (fAsg fe gf) := ⟨ps_asg he.p hg.p hs hw h1, ds_asg he.d hg.d⟩
/-- a statement told by its reading -/
theorem xs_of (h : PS X st (tAsg te (gName i))) (he : DE W te fe) : XS W EX X st (fAsg fe (gN i)) := ⟨h, ds_asg he dg_n⟩
/-- x = [..], a list of the slot's own -/
def fOwn {S : Type} (i : Nat) (fs : AF S) : SF S := fun ρ s => match fs ρ s with
  | some (ds, s') => if ds.length ≤ LIM ∧ i < ρ.length then .nx (ρ.set i (.ow ds)) s' else .no
  | none => .no
theorem own_new {i : Nat} {x : SV} {p : Addr} {o : HO} (R : Rel W Mb ρ s σ H) (hp : H p = none) : OwnN ρ σ H (ρ.set i x) (σ.set i (some (.ref p))) := by
  rintro a ⟨j, ⟨y, h1, h2⟩, h3⟩
  by_cases e : i = j
  · subst e
    by_cases hl : i < σ.length
    · rw [List.getElem?_set_self hl] at h3
      cases h3
      exact .inr hp
    · rw [List.getElem?_eq_none (by simpa using hl)] at h3
      cases h3
  · rw [List.getElem?_set_ne e] at h1 h3
    exact .inl ⟨j, ⟨y, h1, h2⟩, h3⟩
theorem ds_own {i : Nat} (ha : DA W ta fs) : DS W EX (tAsg (tLst ta) (gName i)) (fOwn i fs) := by
  intro Mb ρ s σ H E R q
  unfold fOwn at q
  split at q
  · rename_i ds s' e
    split at q
    · rename_i hz
      refine ha Mb ρ s σ H ds s' R e _ fun vs H1 g1 w1 r1 => ⟨lim_ok (by rw [r1.length]; exact hz.1), fun p hp => ?_⟩
      have R1 := R.gr g1 w1
      exact q _ _ (fun a o nw no h => Gr.new (W := W) hp a o nw (g1 a o nw h)) (fun a h => ((own_new (o := .lst vs) R1 hp) a h).elim .inl fun y => by
        by_cases z : OwnAt ρ σ a
        · exact .inl z
        · cases hh : H a with
          | none => exact .inr rfl
          | some o =>
            by_cases hw : W.at_ a
            · exact absurd y (R1.trk a (R.sub a hw))
            · rw [g1 a o hw hh] at y
              cases y) (R1.newOwn hz.2 hp (x := .ow ds) ⟨vs, rfl, r1⟩)
    · exact q.elim
  · exact q.elim
theorem xs_own (i : Nat) {x : Str} (hN : X.N.Nodup) (ha : XA W X es fs) (hi : X.N[i]? = some x := by rfl) (hx : Loc X.env.scope x := by first | exact Or.inl rfl | exact Or.inr rfl) (hs : swapsWith (.List es p1) (some (.Name x pos')) pos.line X.env = pure false := by rfl)
    (hf : X.fn x = true ∨ X.env.scope.names.lookup x = some .local := by first | exact .inl rfl | exact .inr rfl) : XS W EX X (.Assign [.Name x pos'] (.List es p1) pos) (fOwn i fs) := ⟨ps_set hN hi hx (pe_lst ha.p) hs hf, ds_own ha.d⟩
/-- x = {} -/
def fOwnD {S : Type} (i : Nat) : SF S := fun ρ s => if i < ρ.length then .nx (ρ.set i (.od [])) s else .no
theorem ds_ownD {i : Nat} : DS W EX (tAsg tDNewK (gName i)) (fOwnD i) := by
  intro Mb ρ s σ H E R q
  unfold fOwnD at q
  split at q
  · rename_i hz
    intro p hp
    exact q _ _ (fun a o nw no h => Gr.new (W := W) hp a o nw h) (own_new (o := .dK []) R hp) (R.newOwn hz hp (x := .od []) rfl)
  · exact q.elim
theorem xs_ownD (i : Nat) {x : Str} (hN : X.N.Nodup) (hi : X.N[i]? = some x := by rfl) (hx : Loc X.env.scope x := by first | exact Or.inl rfl | exact Or.inr rfl) (hs : swapsWith (.Dict [] [] p1) (some (.Name x pos')) pos.line X.env = pure false := by rfl)
    (hf : X.fn x = true ∨ X.env.scope.names.lookup x = some .local := by first | exact .inl rfl | exact .inr rfl) : XS W EX X (.Assign [.Name x pos'] (.Dict [] [] p1) pos) (fOwnD i) := ⟨ps_set hN hi hx pe_dnewK hs hf, ds_ownD⟩
/-- where a slot's own object changed -/
theorem own_mut {i : Nat} {x : SV} {p : Addr} {o : HO} (hi : OwnIx ρ σ i p) : GrO W ρ σ H (upd H p o) ∧ OwnN ρ σ H (ρ.set i x) σ := by
  refine ⟨fun a u nw no e => ?_, ?_⟩
  · rw [upd_ne (fun z => no (by rw [z]; exact ⟨i, hi⟩))]
    exact e
  · rintro a ⟨j, ⟨y, h1, h2⟩, h3⟩
    by_cases e : i = j
    · subst e
      have := hi.2.symm.trans h3
      cases this
      exact .inl ⟨i, hi⟩
    · rw [List.getElem?_set_ne e] at h1
      exact .inl ⟨j, ⟨y, h1, h2⟩, h3⟩
/-- x.append(e) -/
def fApp {S : Type} (i : Nat) (fe : EF S) : SF S := fun ρ s => match ρ[i]? with
  | some (.ow ds) => match fe ρ s with
    | some (d, s') => if ds.length < LIM then .nx (ρ.set i (.ow (ds ++ [d]))) s' else .no
    | none => .no
  | _ => .no
theorem ds_app {K : PySem.W.Frag} {i : Nat} (he : DE W te fe) : DS W EX (tDrop (tBM K "list" rAppend (tVar i) (tCons te tNil))) (fApp i fe) := by
  intro Mb ρ s σ H E R q
  unfold fApp at q
  split at q
  · rename_i ds h
    split at q
    · rename_i d s' e
      split at q
      · rename_i hz
        obtain ⟨o, h1, x, vs, rfl, h2, r⟩ := slot_get R h
        refine ⟨.ref x, h1, .inl ⟨rfl, _, .of h2⟩, ?_⟩
        refine he Mb ρ s σ H d s' R e _ fun v H1 g1 w1 r1 => ?_
        have R1 := R.gr g1 w1
        have hix : OwnIx ρ σ i x := ⟨⟨_, h, rfl⟩, h1⟩
        obtain ⟨o', h1', x', vs', e', h2', r'⟩ := slot_get R1 h
        rw [h1] at h1'
        cases h1'
        cases e'
        obtain ⟨m1, m2⟩ := own_mut (W := W) (H := H1) (x := .ow (ds ++ [d])) (o := .lst (vs' ++ [v])) hix
        exact ⟨x, vs', v, rfl, rfl, h2', lim_lt (by rw [r'.length]; omega), q _ _ ((GrO.of g1).comp .refl m1) (fun a z => (m2 a z).elim .inl fun y => absurd y (by
          intro y'
          by_cases qq : OwnAt ρ σ a
          · exact R1.ownT qq y'
          · obtain ⟨j, ⟨yy, hy1, hy2⟩, hy3⟩ := z
            by_cases ej : i = j
            · subst ej
              rw [h1] at hy3
              cases hy3
              exact qq ⟨i, hix⟩
            · rw [List.getElem?_set_ne ej] at hy1
              exact qq ⟨j, ⟨yy, hy1, hy2⟩, hy3⟩)) (R1.mut hix (x := .ow (ds ++ [d])) ⟨_, rfl, r'.append (.cons r1 .nil)⟩)⟩
      · exact q.elim
    · exact q.elim
  · exact q.elim
end
end K7
end
section
set_option maxRecDepth 100000
/-! K76, part k: further statements, defs. -/
namespace K7
open PySem L2
section
open Sem (wp)
open AutoSeq1 (wpAny_loadPart')
open PySem.Spec PyProof.Rows
theorem list_extend_tup (l : Addr) (items : Array Value) (n : Nat) (b : Addr) (items2 : Array Value) (n2 : Nat) (dct : Option Addr) (sl : Array (Option Value)) (hs0 : ¬(!items.isEmpty && Builtin.List.listTooLong (items.size + items2.size)) = true) (hs1 : items.size ≤ sizeLine) (hs2 : items.size + items2.size ≤ sizeLine + 1) :
    Meets (Builtin.«list.extend» ⟨[.ref l, .ref b], []⟩) (fun _ R s => s.heap.get? l = some { cls := .type "list", dict := none, data := .seq items n, slots := #[] } ∧ s.heap.get? b = some { cls := .type "tuple", dict := dct, data := .seq items2 n2, slots := sl } ∧ R (.ok (.ret Value.none)) { s with heap := s.heap.update l (Obj.mapSeq fun x => x ++ items2), toks := s.toks }) :=
  .of_wp fun prog w A R s h => by
    obtain ⟨hp, g, d, tk, os⟩ := s; obtain ⟨hl, hb, h⟩ := h; have f1 := AutoSeq1.idx_int; have f2 := AutoSeq1.sub_tuple_tuple; have f3 := AutoSeq1.sub_list_list; have f4 := AutoSeq1.sub_tuple_list; have f5 := AutoSeq1.sub_list_tuple;
    have hz' : (items ++ items2).size ≤ sizeLine + 1 := by rw [Array.size_append]; exact hs2
    wp_walk using (wpAny_updateSeq hl rfl (hz := hs1) (_hz' := hz')), wpAny_loadPart' hl, wpAny_loadPart' hb; exact ⟨_, rfl, h⟩
def rExtT (K : PySem.W.Frag) : V → List V → Hp → VK → Prop := fun x vs H Q => ∃ l b xs zs, x = .ref l ∧ vs = [.ref b] ∧ H l = some (.lst xs) ∧ SqT K H b zs ∧ xs.length + zs.length ≤ sizeLine ∧ Q .non (upd H l (.lst (xs ++ zs)))
theorem mt_extT {X : Cx} : MtM X "list.extend" (rExtT X.K) := by
  intro pins s σ H x vs v us Q I rx rv h
  obtain ⟨l, b, xs, zs, rfl, rfl, hH, hB, hz, q⟩ := h
  cases rx
  obtain ⟨u, rfl, ru⟩ := rv.one
  cases ru
  obtain ⟨z, its, n, r, hl, e⟩ := I.lstM hH
  obtain ⟨its2, r2, ⟨⟨cc, dd, dt, sl⟩, e2, c2, n2, d2⟩, hl2⟩ := I.tuple hB
  have c2' : cc = .type "tuple" := c2
  have d2' : dt = .seq its2.toArray n2 := d2
  subst c2' d2'
  have hl2 := r2.length
  have hsz : its.toArray.size + its2.toArray.size ≤ sizeLine := by rw [List.size_toArray, List.size_toArray]; omega
  have hlong : ¬ (!its.toArray.isEmpty && Builtin.List.listTooLong (its.toArray.size + its2.toArray.size)) = true := by
    rw [notLongL hsz, Bool.and_false]
    exact Bool.false_ne_true
  refine call_meets F.slot_list_extend ⟨_, e, rfl⟩ F.entry_list_extend (F.args_list_extend_2 _ _)
    (list_extend_tup l its.toArray n b its2.toArray n2 dd sl hlong (by rw [List.size_toArray]; omega) (by omega)) ⟨e, e2, ?_⟩
  refine ⟨.non, _, I.lset (its' := its ++ its2) hH e (by simp) (r.append r2) ?_, rfl, q⟩
  rw [List.length_append]
  omega
end
def rExtU (K : PySem.W.Frag) : V → List V → Hp → VK → Prop := fun x vs H Q => rExtend x vs H Q ∨ rExtT K x vs H Q
theorem mt_extU {X : Cx} : MtR X "list.extend" (rExtU X.K) := by
  intro pins s σ H x vs v us Q I rx rv h
  exact h.elim (mt_extend pins s σ H x vs v us Q I rx rv) (mt_extT pins s σ H x vs v us Q I rx rv)
section
variable {W : Wd} {EX : NX} {Mb : Addr → Prop} {ρ ρ' : List SV} {s s' : W.S} {σ σ' : L2.St} {H H' : Hp} {E : Ends}
variable {X : Cx} {st : Stmt} {rest sts sts' : List Stmt} {t u tb : TS} {f g fb : SF W.S} {e c a b iter tg : Expr} {es : List Expr} {te tv : TE} {tc : TT} {ta : TA} {fe fv : EF W.S} {fc : TF W.S} {fs fi : AF W.S} {pos pos' p1 p2 p3 apos cpos : Pos} {gt : TG} {gf : GF} {js : List Nat} {wi : TI}
theorem own_mut' {i : Nat} {x : SV} {p : Addr} (hi : OwnIx ρ σ i p) : ∀ a, OwnAt (ρ.set i x) σ a → OwnAt ρ σ a := by
  rintro a ⟨j, ⟨y, h1, h2⟩, h3⟩
  by_cases e : i = j
  · subst e
    have := hi.2.symm.trans h3
    cases this
    exact ⟨i, hi⟩
  · rw [List.getElem?_set_ne e] at h1
    exact ⟨j, ⟨y, h1, h2⟩, h3⟩
theorem xs_app (i : Nat) {x : Str} (he : XE W X e fe) (hN : X.N[i]? = some x := by rfl) (hv : Vis X.env.scope x := by first | exact Or.inl rfl | exact Or.inr (Or.inl rfl) | exact Or.inr (Or.inr rfl)) (hd : (x == ("__debug__" : Str)) = false := by decide)
    (hcd : (x == ("__classdict__" : Str)) = false := by decide) (hbase : attributeBase (.Name x p1) "append" X.env (eval (.Name x p1) X.env) = eval (.Name x p1) X.env := by rfl)
    (hfew : ((backTo cpos (starEach [e] X.env)).all (fun x => !x.1) && (backToKw cpos (keywordEach [] X.env)).all (fun x => x.1.isSome) && decide ([e].length + ([] : List Keyword).length + (if ([] : List Keyword).isEmpty then 0 else 1) < 30)) = true := by rfl)
    (hline : (apos.endLine == cpos.line) = true := by rfl) (hs : starEach [e] X.env = (false, eval e X.env) :: starEach [] X.env := by rfl) (hplain : (backTo cpos (starEach [] X.env)).any (·.1) = false := by rfl)
    (hsw : swapsWith (.Call (.Attribute (.Name x p1) "append" apos) [e] [] cpos) none pos.line X.env = pure false := by rfl) :
    XS W EX X (.Expr (.Call (.Attribute (.Name x p1) "append" apos) [e] [] cpos) pos) (fApp i fe) :=
  ⟨ps_expr (pe_bm PySem.F.plainAttrs_list PySem.F.slot_list_append PySem.F.type_list_append mt_append (pe_var hN hv hd hcd) (pa_cons he.p pa_nil hs) hbase hfew hline hs hplain) hsw, ds_app he.d⟩
/-- x.extend(e) -/
def fExt {S : Type} (i : Nat) (fe : EF S) : SF S := fun ρ s => match ρ[i]? with
  | some (.ow ds) => match fe ρ s with
    | some (d, s') => match seq? d with
      | some es => if ds.length + es.length ≤ LIM then .nx (ρ.set i (.ow (ds ++ es))) s' else .no
      | none => .no
    | none => .no
  | _ => .no
theorem ds_ext {K : PySem.W.Frag} {i : Nat} (he : DE W te fe) : DS W EX (tDrop (tBM K "list" (rExtU K) (tVar i) (tCons te tNil))) (fExt i fe) := by
  intro Mb ρ s σ H E R q
  unfold fExt at q
  split at q
  · rename_i ds h
    split at q
    · rename_i d s' e
      split at q
      · rename_i es hes
        split at q
        · rename_i hz
          obtain ⟨o, h1, x, vs, rfl, h2, r⟩ := slot_get R h
          refine ⟨.ref x, h1, .inl ⟨rfl, _, .of h2⟩, ?_⟩
          refine he Mb ρ s σ H d s' R e _ fun v H1 g1 w1 r1 => ?_
          have R1 := R.gr g1 w1
          have hix : OwnIx ρ σ i x := ⟨⟨_, h, rfl⟩, h1⟩
          obtain ⟨o', h1', x', vs', e', h2', r'⟩ := slot_get R1 h
          rw [h1] at h1'
          cases h1'
          cases e'
          have fin : ∀ us : List V, RepL (MO Mb ρ σ) H1 es us → E.nx σ (upd H1 x (.lst (vs' ++ us))) := fun us l =>
            q _ _ ((GrO.of g1).comp .refl (own_mut (W := W) (H := H1) (x := .ow (ds ++ es)) (o := .lst (vs' ++ us)) hix).1) (fun a z => .inl (own_mut' hix a z)) (R1.mut hix (x := .ow (ds ++ es)) ⟨_, rfl, r'.append l⟩)
          cases d with
          | tup xs =>
            cases hes
            simp only [Rep] at r1
            obtain ⟨b, us, rfl, nb, hb, l⟩ := r1
            exact .inr ⟨x, b, vs', us, rfl, rfl, h2', .of hb, lim_ok (by rw [r'.length, l.length]; exact hz), fin us l⟩
          | lst xs =>
            cases hes
            simp only [Rep] at r1
            obtain ⟨b, us, rfl, nb, hb, l⟩ := r1
            exact .inl ⟨x, b, vs', us, rfl, rfl, h2', hb, lim_ok (by rw [r'.length, l.length]; exact hz), fin us l⟩
          | _ => cases hes
        · exact q.elim
      · exact q.elim
    · exact q.elim
  · exact q.elim
theorem xs_ext (i : Nat) {x : Str} (he : XE W X e fe) (hN : X.N[i]? = some x := by rfl) (hv : Vis X.env.scope x := by first | exact Or.inl rfl | exact Or.inr (Or.inl rfl) | exact Or.inr (Or.inr rfl)) (hd : (x == ("__debug__" : Str)) = false := by decide)
    (hcd : (x == ("__classdict__" : Str)) = false := by decide) (hbase : attributeBase (.Name x p1) "extend" X.env (eval (.Name x p1) X.env) = eval (.Name x p1) X.env := by rfl)
    (hfew : ((backTo cpos (starEach [e] X.env)).all (fun x => !x.1) && (backToKw cpos (keywordEach [] X.env)).all (fun x => x.1.isSome) && decide ([e].length + ([] : List Keyword).length + (if ([] : List Keyword).isEmpty then 0 else 1) < 30)) = true := by rfl)
    (hline : (apos.endLine == cpos.line) = true := by rfl) (hs : starEach [e] X.env = (false, eval e X.env) :: starEach [] X.env := by rfl) (hplain : (backTo cpos (starEach [] X.env)).any (·.1) = false := by rfl)
    (hsw : swapsWith (.Call (.Attribute (.Name x p1) "extend" apos) [e] [] cpos) none pos.line X.env = pure false := by rfl) :
    XS W EX X (.Expr (.Call (.Attribute (.Name x p1) "extend" apos) [e] [] cpos) pos) (fExt i fe) :=
  ⟨ps_expr (pe_bm PySem.F.plainAttrs_list PySem.F.slot_list_extend PySem.F.type_list_extend mt_extU (pe_var hN hv hd hcd) (pa_cons he.p pa_nil hs) hbase hfew hline hs hplain) hsw, ds_ext he.d⟩
/-- target = x.pop() -/
def fPop {S : Type} (i : Nat) (gf : GF) : SF S := fun ρ s => match ρ[i]? with
  | some (.ow ds) => match ds[ds.length - 1]? with
    | some d => match gf d (ρ.set i (.ow ds.dropLast)) with
      | some ρ' => .nx ρ' s
      | none => .no
    | none => .no
  | _ => .no
theorem ds_pop {K : PySem.W.Frag} {i : Nat} (hg : DG W js gt gf) : DS W EX (tAsg (tBM0 K "list" rPop (tVar i)) gt) (fPop i gf) := by
  intro Mb ρ s σ H E R q
  unfold fPop at q
  split at q
  · rename_i ds h
    split at q
    · rename_i d hd
      split at q
      · rename_i ρ' e
        obtain ⟨o, h1, x, vs, rfl, h2, r⟩ := slot_get R h
        obtain ⟨v, hv, rv⟩ := r.get hd
        have hix : OwnIx ρ σ i x := ⟨⟨_, h, rfl⟩, h1⟩
        refine ⟨.ref x, h1, .inl ⟨rfl, _, .of h2⟩, x, vs, v, rfl, rfl, h2, by rw [r.length]; exact hv, ?_⟩
        have R2 := R.mut hix (x := .ow ds.dropLast) (o := .lst vs.dropLast) ⟨_, rfl, r.dropLast⟩
        have em : ∀ a, MO Mb (ρ.set i (.ow ds.dropLast)) σ a → MO Mb ρ σ a := fun a z => z.elim .inl fun z => .inr (own_mut' hix a z)
        have hx : MO Mb ρ σ x := .inr ⟨i, hix⟩
        have rv2 : Rep (MO Mb (ρ.set i (.ow ds.dropLast)) σ) (upd H x (.lst vs.dropLast)) d v := rv.step (fun a o n e => by rw [upd_ne (fun z => n (by rw [z]; exact hx))]; exact e) fun a z => .inl (em a z)
        refine hg Mb _ s σ _ v d ρ' R2 rv2 e E.nx fun σ2 T => ?_
        exact q σ2 _ (own_mut (W := W) (H := H) (x := .ow ds.dropLast) (o := .lst vs.dropLast) hix).1 (fun a z => .inl (own_mut' hix a (T.own a z))) T.rel
      · exact q.elim
    · exact q.elim
  · exact q.elim
theorem xs_pop (i : Nat) {x : Str} (hg : XG W X tg js gf) (hN : X.N[i]? = some x := by rfl) (hv : Vis X.env.scope x := by first | exact Or.inl rfl | exact Or.inr (Or.inl rfl) | exact Or.inr (Or.inr rfl)) (hd : (x == ("__debug__" : Str)) = false := by decide)
    (hcd : (x == ("__classdict__" : Str)) = false := by decide) (hbase : attributeBase (.Name x p1) "pop" X.env (eval (.Name x p1) X.env) = eval (.Name x p1) X.env := by rfl) (hline : (apos.endLine == cpos.line) = true := by rfl)
    (hs : swapsWithSole [tg] (.Call (.Attribute (.Name x p1) "pop" apos) [] [] cpos) pos.line X.env = pure false := by rfl) (hw : swappedStores [tg] (.Call (.Attribute (.Name x p1) "pop" apos) [] [] cpos) X.env = pure none := by rfl) (h1 : (assignEach [tg] X.env).map (·.2) = [assign tg X.env] := by rfl) :
    XS W EX X (.Assign [tg] (.Call (.Attribute (.Name x p1) "pop" apos) [] [] cpos) pos) (fPop i gf) :=
  ⟨ps_asg (pe_bm0 PySem.F.plainAttrs_list PySem.F.slot_list_pop PySem.F.type_list_pop mt_pop (pe_var hN hv hd hcd) hbase hline) hg.p hs hw h1, ds_pop hg.d⟩
/-- d[k] = True -/
def fPutD {S : Type} (i : Nat) (fe : EF S) : SF S := fun ρ s => match ρ[i]? with
  | some (.od ks) => match fe ρ s with
    | some (.int k, s') => if ks.length < LIM then .nx (ρ.set i (.od (kput ks k))) s' else .no
    | _ => .no
  | _ => .no
theorem ds_putD {i : Nat} (he : DE W te fe) : DS W EX (sDPut (tVar i) te (tC (.bl true))) (fPutD i fe) := by
  intro Mb ρ s σ H E R q
  unfold fPutD at q
  split at q
  · rename_i ks h
    split at q
    · rename_i k s' e
      split at q
      · rename_i hz
        obtain ⟨o, h1, x, rfl, h2⟩ := slot_get R h
        refine ⟨.ref x, h1, ?_⟩
        refine he Mb ρ s σ H _ s' R e _ fun v H1 g1 w1 r1 => ?_
        have R1 := R.gr g1 w1
        have hix : OwnIx ρ σ i x := ⟨⟨_, h, rfl⟩, h1⟩
        obtain ⟨o', h1', x', e', h2'⟩ := slot_get R1 h
        rw [h1] at h1'
        cases h1'
        cases e'
        simp only [Rep] at r1
        subst r1
        refine ⟨x, _, rfl, DPut.k (k := Sum.inl k) h2' (by unfold dkv; rw [List.length_map]; exact lim_lt (by omega)), ?_⟩
        rw [putK_dkv]
        exact q _ _ ((GrO.of g1).comp .refl (own_mut (W := W) (H := H1) (x := .od (kput ks k)) (o := .dK (dkv (kput ks k))) hix).1) (fun a z => .inl (own_mut' hix a z)) (R1.mut hix (x := .od (kput ks k)) rfl)
      · exact q.elim
    · exact q.elim
  · exact q.elim
theorem xs_putD (i : Nat) {x : Str} {j : Nat} (hu : X.A.units + 1 < cLine) (he : XE W X e fe) (hN : X.N[i]? = some x := by rfl) (hv : Vis X.env.scope x := by first | exact Or.inl rfl | exact Or.inr (Or.inl rfl) | exact Or.inr (Or.inr rfl)) (hd : (x == ("__debug__" : Str)) = false := by decide)
    (hcd : (x == ("__classdict__" : Str)) = false := by decide) (hs : swapsWith (.Constant (.bool true) j p2) (some (.Subscript (.Name x p1) e p3)) pos.line X.env = pure false := by rfl) :
    XS W EX X (.Assign [.Subscript (.Name x p1) e p3] (.Constant (.bool true) j p2) pos) (fPutD i fe) := ⟨ps_dput hu (pe_var hN hv hd hcd) he.p pe_bl hs, ds_putD he.d⟩
/-! a, b = x, y -/
def fPar {S : Type} (i j : Nat) (fs : AF S) : SF S := fun ρ s => match fs ρ s with
  | some ([d, d'], s') => .nx ((ρ.set i (.im d)).set j (.im d')) s'
  | _ => .no
theorem ds_par {i j : Nat} (ha : DA W ta fs) : DS W EX (tPar i j ta) (fPar i j fs) := by
  intro Mb ρ s σ H E R q
  unfold fPar at q
  split at q
  · rename_i d d' s' e
    refine ha Mb ρ s σ H _ s' R e _ fun vs H1 g1 w1 r1 => ?_
    have R1 := R.gr g1 w1
    obtain ⟨v, r, rfl, h1, r1⟩ := r1.inv
    obtain ⟨w, r, rfl, h2, r1⟩ := r1.inv
    have e0 := r1.inv0
    subst e0
    refine ⟨v, w, rfl, ?_⟩
    have hm : ∀ a, MO Mb (ρ.set i (.im d)) (σ.set i (some v)) a → MO Mb ρ σ a ∨ H1 a = none := fun a h => .inl (h.elim .inl fun ⟨k, h⟩ => .inr ⟨k, h.set_im⟩)
    exact q _ _ (.of g1) (fun a ⟨k, h⟩ => .inl ⟨k, h.set_im.set_im⟩) ((R1.set_im h1).set_im (h2.more hm))
  · exact q.elim
/-! for -/
def forGo {S : Type} (gf : GF) (fb : SF S) : List D → SF S
  | [] => fun ρ s => .nx ρ s
  | d :: ds => fun ρ s => match gf d ρ with
    | some ρ1 => match fb ρ1 s with
      | .nx ρ2 s2 => forGo gf fb ds ρ2 s2
      | .rt d s2 => .rt d s2
      | .np y s2 => .np y s2
      | .no => .no
    | none => .no
def fFor {S : Type} (fi : AF S) (gf : GF) (fb : SF S) : SF S := fun ρ s => match fi ρ s with
  | some (ds, s') => forGo gf fb ds ρ s'
  | none => .no
theorem GrO.trans' {ρ2 : List SV} {σ2 : L2.St} {H2 : Hp} (g : GrO W ρ σ H H') (n : OwnN ρ σ H ρ' σ') (g2 : GrO W ρ' σ' H' H2) (R2 : ∀ a, OwnAt ρ2 σ2 a → ¬ W.at_ a) (n2 : OwnN ρ' σ' H' ρ2 σ2) : OwnN ρ σ H ρ2 σ2 := fun a z => (n2 a z).elim (fun y => n a y) fun y => by
  by_cases q : OwnAt ρ σ a
  · exact .inl q
  · cases hh : H a with
    | none => exact .inr rfl
    | some o =>
      have e := g a o (R2 a z) q hh
      rw [e] at y
      cases y
theorem ds_for (hi : DI W false wi fi) (hg : DG W js gt gf) (hb : DS W EX tb fb) : DS W EX (tFor wi gt tb) (fFor fi gf fb) := by
  intro Mb ρ s σ H E R q
  unfold fFor at q
  split at q
  · rename_i ds0 s1 e
    refine hi Mb ρ s σ H ds0 s1 R e _ fun J H1 G Y g1 w1 wl => ?_
    have R1 := R.gr g1 w1
    have q1 : Post W EX Mb ρ σ H1 E (forGo gf fb ds0 ρ s1) := Post.comp (.of g1) .refl q
    refine for_it wl.walk (fun i σi Hi => ∃ (ρi : List SV) (si : W.S), Rel W Mb ρi si σi Hi ∧ GrO W ρ σ H1 Hi ∧ OwnN ρ σ H1 ρi σi ∧ Post W EX Mb ρi σi Hi E (forGo gf fb (ds0.drop i) ρi si)) ⟨ρ, s1, R1, .refl, .refl, q1⟩ ?_ ?_ ?_
    · rintro i σi Hi _ ⟨ρi, si, Ri, gi, ni, _⟩
      exact wl.stay Hi fun a o n e => gi a o (fun z => n (by simp [NN]; exact R1.watM a z)) (fun z => n (by simp [NN]; exact .inr z)) e
    · rintro i x σi Hi H2 hlt ⟨ρi, si, Ri, gi, ni, qi⟩ y
      have kp : Keeps (NN W false (MO Mb ρ σ)) H1 Hi := fun a o n e => gi a o (fun z => n (by simp [NN]; exact R1.watM a z)) (fun z => n (by simp [NN]; exact .inr z)) e
      obtain ⟨xh, d, hd, rd⟩ := wl.item (MO Mb ρi σi) i Hi x H2 (fun a h => h.elim (fun z => .inl (.inl z)) fun z => (ni a z).elim (fun y => .inl (.inr y)) .inr) (fun a h => Ri.moT h) kp hlt y
      rw [drop_of hd] at qi
      simp only [forGo] at qi
      split at qi
      · rename_i ρ1 eg
        have Rx := Ri.gr xh.gr (W.ex xh Ri.world)
        refine hg Mb ρi si σi H2 x d ρ1 Rx rd eg _ fun σ2 T => ?_
        have gx : GrO W ρi σi Hi H2 := .of xh.gr
        have nx : OwnN ρi σi Hi ρ1 σ2 := fun a z => .inl (T.own a z)
        have g12 := gi.comp ni gx
        have n12 : OwnN ρ σ H1 ρ1 σ2 := gi.trans' ni gx (fun a z => T.rel.ownW z) nx
        refine hb Mb ρ1 si σ2 H2 _ T.rel ?_
        cases hfb : fb ρ1 si with
        | nx ρ2 s2 =>
          rw [hfb] at qi
          refine fun σ3 H3 g3 n3 R3 => ⟨ρ2, s2, R3, g12.comp n12 g3, g12.trans' n12 g3 (fun a z => R3.ownW z) n3, Post.comp ((gx.comp nx g3)) ((gx.trans' nx g3 (fun a z => R3.ownW z) n3)) qi⟩
        | rt d s2 =>
          rw [hfb] at qi
          exact Post.comp gx nx qi
        | np y s2 =>
          rw [hfb] at qi
          exact Post.comp gx nx qi
        | no =>
          rw [hfb] at qi
          exact qi.elim
      · exact qi.elim
    · rintro σi Hi ⟨ρi, si, Ri, gi, ni, qi⟩
      rw [List.drop_length] at qi
      exact qi σi Hi .refl .refl Ri
  · exact q.elim
theorem xs_for (hp : PassesOwn (model X.prog X.w) X.A X.env X.xe) (hc : X.calm = true) (hi : XI W false X tg iter fi) (hg : XG W X tg js gf) (hb : XSs W EX X sts fb) (hs : ∀ x, foldedSetIterable iter X.env x = pure x := by intro _; rfl) : XS W EX X (.For tg iter sts [] pos) (fFor fi gf fb) :=
  ⟨ps_for hp hc hi.p hg.p hb.p hs, ds_for hi.d hg.d hb.d⟩
/-! while -/
def fWhile {S : Type} (fc : TF S) (fb : SF S) : Nat → SF S
  | 0 => fun _ _ => .no
  | n + 1 => fun ρ s => match fc ρ s with
    | some (b, s1) => if b = true then match fb ρ s1 with
        | .nx ρ2 s2 => fWhile fc fb n ρ2 s2
        | .rt d s2 => .rt d s2
        | .np y s2 => .np y s2
        | .no => .no
      else .nx ρ s1
    | none => .no
theorem ds_while (n : Nat) (hc : DT W tc fc) (hb : DS W EX tb fb) : DS W EX (tWhile tc tb) (fWhile fc fb n) := by
  intro Mb ρ s σ H E R q
  refine ⟨fun m σi Hi => ∃ (ρi : List SV) (si : W.S), Rel W Mb ρi si σi Hi ∧ Post W EX Mb ρi σi Hi E (fWhile fc fb m ρi si), ⟨n, ρ, s, R, q⟩, ?_⟩
  rintro m σi Hi ⟨ρi, si, Ri, qi⟩
  cases m with
  | zero => exact qi.elim
  | succ m =>
    simp only [fWhile] at qi
    split at qi
    · rename_i b s1 e
      refine hc Mb ρi si σi Hi b s1 Ri e _ fun H1 g1 w1 => ?_
      have R1 := Ri.gr g1 w1
      cases b with
      | true =>
        refine iteT ?_
        rw [if_pos rfl] at qi
        refine ⟨fun σ2 H2 => ∃ (ρi : List SV) (si : W.S), Rel W Mb ρi si σ2 H2 ∧ Post W EX Mb ρi σ2 H2 E (fWhile fc fb m ρi si), fun σ2 H2 h => ⟨m, Nat.lt_succ_self m, h⟩, ?_⟩
        refine hb Mb ρi s1 σi H1 _ R1 ?_
        cases hfb : fb ρi s1 with
        | nx ρ2 s2 =>
          rw [hfb] at qi
          exact fun σ3 H3 g3 n3 R3 => ⟨ρ2, s2, R3, Post.comp ((GrO.of g1).comp .refl g3) ((GrO.of g1).trans' .refl g3 (fun a z => R3.ownW z) n3) qi⟩
        | rt d s2 =>
          rw [hfb] at qi
          exact Post.comp (.of g1) .refl qi
        | np y s2 =>
          rw [hfb] at qi
          exact Post.comp (.of g1) .refl qi
        | no =>
          rw [hfb] at qi
          exact qi.elim
      | false =>
        refine iteF ?_
        have qi' : Post W EX Mb ρi σi Hi E (.nx ρi s1) := by simpa using qi
        exact qi' σi H1 (.of g1) .refl R1
    · exact qi.elim
theorem xs_while (n : Nat) (hp : PassesOwn (model X.prog X.w) X.A X.env X.xe) (hc : XT W X c fc) (hb : XSs W EX X sts fb) : XS W EX X (.While c sts [] pos) (fWhile fc fb n) := ⟨ps_while hp hc.p hb.p, ds_while n hc.d hb.d⟩
end
/-! ### a def that changes nothing -/
def runP (n : Nat) (f : SF Unit) (ds : List D) : Option D := match f (ds.map SV.im ++ List.replicate (n - ds.length) SV.un) () with
  | .rt d _ => some d
  | .nx _ _ => some .non
  | _ => none
def noEX : NX := fun _ _ _ => False
theorem start_rel {N : List Str} {W : Wd} {Mb : Addr → Prop} {ds : List D} {vs : List V} {s : W.S} {H : Hp} (hn : ds.length ≤ N.length) (sub : ∀ a, W.at_ a → Mb a) (trk : ∀ a, Mb a → H a ≠ none) (r : RepL Mb H ds vs) (w : W.rel Mb s H) :
    Rel W Mb (ds.map SV.im ++ List.replicate (N.length - ds.length) SV.un) s (L2.start N vs) H ∧ ∀ a, ¬ OwnAt (ds.map SV.im ++ List.replicate (N.length - ds.length) SV.un) (L2.start N vs) a := by
  have hl := r.length
  have no : ∀ a, ¬ OwnAt (ds.map SV.im ++ List.replicate (N.length - ds.length) SV.un) (L2.start N vs) a := by
    rintro a ⟨i, ⟨x, h1, h2⟩, h3⟩
    rw [List.getElem?_append] at h1
    split at h1
    · rw [List.getElem?_map] at h1
      obtain ⟨d, _, rfl⟩ := Option.map_eq_some_iff.mp h1
      cases h2
    · rw [List.getElem?_replicate] at h1
      split at h1
      · cases h1
        cases h2
      · cases h1
  have hM : MO Mb (ds.map SV.im ++ List.replicate (N.length - ds.length) SV.un) (L2.start N vs) = Mb := by
    funext a
    exact propext ⟨fun h => h.elim id fun z => (no a z).elim, .inl⟩
  refine ⟨⟨by unfold L2.start; rw [List.length_append, List.length_append, List.length_map, List.length_map, List.length_replicate, List.length_replicate, hl], sub, trk, fun a h => (no a h).elim, fun i j a h => (no a ⟨i, h⟩).elim, fun i x o hx hs => ?_, by rw [hM]; exact w⟩, no⟩
  rw [hM]
  unfold L2.start at hs
  rw [List.getElem?_append] at hx hs
  rw [List.length_map] at hx hs
  split at hx
  · rename_i hi
    rw [if_pos (by rw [hl]; exact hi)] at hs
    rw [List.getElem?_map] at hx hs
    obtain ⟨d, hd, rfl⟩ := Option.map_eq_some_iff.mp hx
    obtain ⟨v, hv, rfl⟩ := Option.map_eq_some_iff.mp hs
    obtain ⟨v', hv', rv⟩ := r.get hd
    rw [hv] at hv'
    cases hv'
    exact ⟨v, rfl, rv⟩
  · rw [List.getElem?_replicate] at hx
    split at hx
    · cases hx
      exact True.intro
    · cases hx
section
variable {P : Program} {w : World} {K : PySem.W.Frag} {mg : Str → Option Value} {base : Heap} {x qual : Str} {params : Arguments} {body : List Stmt} {scope : Scope} {f : Addr} {fd : FuncData} {N ps : List Str} {k n : Nat}
theorem ok_pure {m : List D → Option D} (F : SF Unit) (hm : m = runP N.length F) (D : FunD K x qual params body scope [] [] f fd) (S : FnScope N ps scope) (hn : ps.length = n) (hN : n ≤ N.length)
    (h : ∀ (cdv : Value) (A : Around) (outer : List Env) (s : Shared) (H : Hp) (E : XK), Room k (A.deeper (PyProof.Rows.envOfC qual scope s.heap.objs.size f cdv)) → XSs W0 noEX (cxOf CX0 P w K mg base N qual scope f cdv A outer s H E).nox body F) :
    FnOk P w K mg base CX0 (k + 1) f fd ps (spP n m) := by
  subst hm
  refine D.ok S (fun vs H Q E q => ?_) fun cdv A outer s H vs Q E hr q => ?_
  · obtain ⟨Mb, ds, d, h1, h2, h3, h4, h5⟩ := q
    rw [h3.length, h1, hn]
  · obtain ⟨Mb, ds, d, h1, h2, h3, h4, h5⟩ := q
    have ht := h cdv A outer s H E hr
    refine ⟨_, PSs.nox ht.p, ?_⟩
    obtain ⟨R, no⟩ := start_rel (W := W0) (N := N) (s := ()) (by omega) (fun a z => z.elim) h2 h3 trivial
    refine ht.d Mb _ () _ H _ R ?_
    unfold runP at h4
    have ex : ∀ H', GrO W0 (ds.map SV.im ++ List.replicate (N.length - ds.length) SV.un) (L2.start N vs) H H' → Exh H H' := fun H' g a o e => g a o (fun z => z) (no a) e
    split at h4
    · rename_i d' s' e
      cases h4
      rw [e]
      exact fun v H' g _ r => h5 v H' (ex H' g) r
    · rename_i ρ' s' e
      cases h4
      rw [e]
      exact fun σ' H' g _ _ => h5 _ H' (ex H' g) rep_non
    · cases h4
end
end K7
end
section
set_option maxRecDepth 100000
/-! K76, part l: x = [..] as one instruction; a def's contract. -/
namespace K7
open PySem L2
section
variable {W : Wd} {EX : NX} {X : Cx} {elt tg iter tg1 iter1 : Expr} {ifs ifs1 : List Expr} {pos spos py : Pos}
  {wi wi1 : TI} {g g1 : TG} {tt tt1 : TT} {te : TE} {fi fi1 : AF W.S} {gf gf1 : GF} {ft ft1 : TF W.S} {fe : EF W.S} {js js1 vs1 : List Nat}
theorem xs_setLc (i : Nat) {y : Str} {scope : Scope} {own : List (Str × Nat)} (hc : X.calm = true) (hN : X.N.Nodup) (hi : XI W true X tg iter fi) (ok : BlkOk X.N X.env.scope scope own)
    (hg : ∀ (s : Shared) (H : Hp) (C : Addr) (cl : List (Str × Addr)) (fp : List Addr), XG W (X.blk s H scope (compEnvC scope cl C X.env) fp) tg js gf) (ht : ∀ (s : Shared) (H : Hp) (C : Addr) (cl : List (Str × Addr)) (fp : List Addr), XTs W (X.blk s H scope (compEnvC scope cl C X.env) fp) ifs ft)
    (he : ∀ (s : Shared) (H : Hp) (C : Addr) (cl : List (Str × Addr)) (fp : List Addr), XE W (X.blk s H scope (compEnvC scope cl C X.env) fp) elt fe) (hy : X.N[i]? = some y := by rfl) (hyl : X.env.scope.names.lookup y = some .local := by rfl)
    (hsw : swapsWith (.ListComp elt [⟨tg, iter, ifs, 0⟩] scope pos) (some (.Name y py)) spos.line X.env = pure true := by exact sw_true rfl rfl rfl (by decide +kernel)) (hjs : ∀ j ∈ js, j ∈ own.map (·.2) := by decide) (hs : ∀ x, foldedSetIterable iter X.env x = pure x := by intro _; rfl) :
    XS W EX X (.Assign [.Name y py] (.ListComp elt [⟨tg, iter, ifs, 0⟩] scope pos) spos) (fAsg (fLc fi gf ft fe (own.map (·.2))) (gN i)) :=
  ⟨ps_setLc hc hN hy hyl hsw hi.p ok (fun s H C cl fp => (hg s H C cl fp).p) (fun s H C cl fp => (ht s H C cl fp).p) (fun s H C cl fp => (he s H C cl fp).p) hs,
    ds_asg (de_lc hi.d (hg X.s_0 (fun _ => none) 0 [] []).d hjs (ht X.s_0 (fun _ => none) 0 [] []).d (he X.s_0 (fun _ => none) 0 [] []).d) dg_n⟩
theorem xe_lc2 {scope : Scope} {own : List (Str × Nat)} (vs1 : List Nat) (hc : X.calm = true) (hN : X.N.Nodup) (hi : XI W true X tg iter fi) (ok : BlkOk X.N X.env.scope scope own)
    (hg : ∀ (s : Shared) (H : Hp) (C : Addr) (cl : List (Str × Addr)) (fp : List Addr), XG W (X.blk s H scope (compEnvC scope cl C X.env) fp) tg js gf) (ht : ∀ (s : Shared) (H : Hp) (C : Addr) (cl : List (Str × Addr)) (fp : List Addr), XTs W (X.blk s H scope (compEnvC scope cl C X.env) fp) ifs ft)
    (hi1 : ∀ (s : Shared) (H : Hp) (C : Addr) (cl : List (Str × Addr)) (fp : List Addr), XI W false (X.blk s H scope (compEnvC scope cl C X.env) fp) tg1 iter1 fi1)
    (hg1 : ∀ (s : Shared) (H : Hp) (C : Addr) (cl : List (Str × Addr)) (fp : List Addr), XG W (X.blk s H scope (compEnvC scope cl C X.env) fp) tg1 js1 gf1) (ht1 : ∀ (s : Shared) (H : Hp) (C : Addr) (cl : List (Str × Addr)) (fp : List Addr), XTs W (X.blk s H scope (compEnvC scope cl C X.env) fp) ifs1 ft1)
    (he : ∀ (s : Shared) (H : Hp) (C : Addr) (cl : List (Str × Addr)) (fp : List Addr), XE W (X.blk s H scope (compEnvC scope cl C X.env) fp) elt fe) (hv : ∀ i ∈ vs1, i ∈ own.map (·.2) := by decide) (hjs : ∀ j ∈ js, j ∈ own.map (·.2) := by decide) (hjs1 : ∀ j ∈ js1, j ∈ vs1 := by decide)
    (hs : ∀ x, foldedSetIterable iter X.env x = pure x := by intro _; rfl) (hs1 : ∀ env x, foldedSetIterable iter1 env x = pure x := by intro _ _; rfl) :
    XE W X (.ListComp elt [⟨tg, iter, ifs, 0⟩, ⟨tg1, iter1, ifs1, 0⟩] scope pos) (fLc2 fi gf ft fi1 gf1 ft1 fe (own.map (·.2)) vs1) :=
  ⟨pe_lc2 hc hN hi.p ok hv (fun s H C cl fp => (hg s H C cl fp).p) (fun s H C cl fp => (ht s H C cl fp).p) (fun s H C cl fp => (hi1 s H C cl fp).p) (fun s H C cl fp => (hg1 s H C cl fp).p) (fun s H C cl fp => (ht1 s H C cl fp).p) (fun s H C cl fp => (he s H C cl fp).p) hs hs1,
    de_lc2 hi.d (hg X.s_0 (fun _ => none) 0 [] []).d hjs (ht X.s_0 (fun _ => none) 0 [] []).d (hi1 X.s_0 (fun _ => none) 0 [] []).d (hg1 X.s_0 (fun _ => none) 0 [] []).d hjs1 (ht1 X.s_0 (fun _ => none) 0 [] []).d (he X.s_0 (fun _ => none) 0 [] []).d⟩
theorem xs_setLc2 (i : Nat) {y : Str} {scope : Scope} {own : List (Str × Nat)} (vs1 : List Nat) (hc : X.calm = true) (hN : X.N.Nodup) (hi : XI W true X tg iter fi) (ok : BlkOk X.N X.env.scope scope own)
    (hg : ∀ (s : Shared) (H : Hp) (C : Addr) (cl : List (Str × Addr)) (fp : List Addr), XG W (X.blk s H scope (compEnvC scope cl C X.env) fp) tg js gf) (ht : ∀ (s : Shared) (H : Hp) (C : Addr) (cl : List (Str × Addr)) (fp : List Addr), XTs W (X.blk s H scope (compEnvC scope cl C X.env) fp) ifs ft)
    (hi1 : ∀ (s : Shared) (H : Hp) (C : Addr) (cl : List (Str × Addr)) (fp : List Addr), XI W false (X.blk s H scope (compEnvC scope cl C X.env) fp) tg1 iter1 fi1)
    (hg1 : ∀ (s : Shared) (H : Hp) (C : Addr) (cl : List (Str × Addr)) (fp : List Addr), XG W (X.blk s H scope (compEnvC scope cl C X.env) fp) tg1 js1 gf1) (ht1 : ∀ (s : Shared) (H : Hp) (C : Addr) (cl : List (Str × Addr)) (fp : List Addr), XTs W (X.blk s H scope (compEnvC scope cl C X.env) fp) ifs1 ft1)
    (he : ∀ (s : Shared) (H : Hp) (C : Addr) (cl : List (Str × Addr)) (fp : List Addr), XE W (X.blk s H scope (compEnvC scope cl C X.env) fp) elt fe) (hy : X.N[i]? = some y := by rfl) (hyl : X.env.scope.names.lookup y = some .local := by rfl)
    (hsw : swapsWith (.ListComp elt [⟨tg, iter, ifs, 0⟩, ⟨tg1, iter1, ifs1, 0⟩] scope pos) (some (.Name y py)) spos.line X.env = pure true := by exact sw_true rfl rfl rfl (by decide +kernel))
    (hv : ∀ i ∈ vs1, i ∈ own.map (·.2) := by decide) (hjs : ∀ j ∈ js, j ∈ own.map (·.2) := by decide) (hjs1 : ∀ j ∈ js1, j ∈ vs1 := by decide)
    (hs : ∀ x, foldedSetIterable iter X.env x = pure x := by intro _; rfl) (hs1 : ∀ env x, foldedSetIterable iter1 env x = pure x := by intro _ _; rfl) :
    XS W EX X (.Assign [.Name y py] (.ListComp elt [⟨tg, iter, ifs, 0⟩, ⟨tg1, iter1, ifs1, 0⟩] scope pos) spos) (fAsg (fLc2 fi gf ft fi1 gf1 ft1 fe (own.map (·.2)) vs1) (gN i)) :=
  ⟨ps_setLc2 hc hN hy hyl hsw hi.p ok hv (fun s H C cl fp => (hg s H C cl fp).p) (fun s H C cl fp => (ht s H C cl fp).p) (fun s H C cl fp => (hi1 s H C cl fp).p) (fun s H C cl fp => (hg1 s H C cl fp).p) (fun s H C cl fp => (ht1 s H C cl fp).p) (fun s H C cl fp => (he s H C cl fp).p) hs hs1,
    ds_asg (de_lc2 hi.d (hg X.s_0 (fun _ => none) 0 [] []).d hjs (ht X.s_0 (fun _ => none) 0 [] []).d (hi1 X.s_0 (fun _ => none) 0 [] []).d (hg1 X.s_0 (fun _ => none) 0 [] []).d hjs1 (ht1 X.s_0 (fun _ => none) 0 [] []).d (he X.s_0 (fun _ => none) 0 [] []).d) dg_n⟩
end
section
variable {W : Wd} {X : Cx} {a : Expr} {ta : TE} {fa : EF W.S} {pos : Pos}
def dNeg : D → Option D
  | .int i => some (.int (-i))
  | _ => none
theorem xe_neg (ha : XW W X a fa) : XE W X (.UnaryOp .USub a pos) (fUn dNeg fa) := by
  refine ⟨pe_un un_neg ha.p, fun Mb ρ s σ H d s' R e Q q => ?_⟩
  simp only [fUn, Option.bind_eq_some_iff, Option.map_eq_some_iff, Prod.mk.injEq] at e
  obtain ⟨⟨dx, s1⟩, e1, d', e3, rfl, rfl⟩ := e
  cases dx with
  | int i =>
    cases e3
    exact ha.d Mb ρ s σ H _ s1 R e1 _ fun x H1 g1 w1 r1 => ⟨i, repw_int r1, q _ H1 g1 w1 rep_int⟩
  | _ => cases e3
end
section
variable {P : Program} {w : World} {K : PySem.W.Frag} {mg : Str → Option Value} {base : Heap} {x name qual : Str} {params : Arguments} {body : List Stmt} {scope : Scope} {f : Addr} {fd : FuncData} {ps : List Str} {k n : Nat} {m : List D → Option D}
/-- where a def of the text stands -/
structure Def (K : PySem.W.Frag) (mg : Str → Option Value) (x name qual : Str) (st : Stmt) (f : Addr) (fd : FuncData) : Prop where
  fn : FunD K name qual (defArgs st) (defBody st) (defScope st) [] [] f fd
  at_ : mg x = some (.ref f)
variable {st : Stmt}
theorem calP_mk (D : Def K mg x name qual st f fd) (hn : ps.length = n) (F : FnOk P w K mg base CX0 k f fd ps (spP n m))
    (hb : ∀ (kV doc pm : Value) (an : Option Addr) (cdv ct : Value) (us : List Value), us.length = ps.length → bindArgs (PySem.W.fnOf name qual (defArgs st) (defBody st) (defScope st) .none kV doc pm an cdv ct) ⟨us, []⟩ = pure (ps.zip us)) : CalP P w K mg base k x n m :=
  ⟨f, fd, ps, hn, F, D.at_, D.fn.kp, D.fn.bindsN hb⟩
theorem calP_zero (D : Def K mg x name qual st f fd) (hn : ps.length = n)
    (hb : ∀ (kV doc pm : Value) (an : Option Addr) (cdv ct : Value) (us : List Value), us.length = ps.length → bindArgs (PySem.W.fnOf name qual (defArgs st) (defBody st) (defScope st) .none kV doc pm an cdv ct) ⟨us, []⟩ = pure (ps.zip us)) : CalP P w K mg base k x n (fun _ => none) :=
  calP_mk D hn (by
    have no : ∀ vs H Q E, ¬ spP n (fun _ => none) vs H Q E := fun vs H Q E ⟨_, _, _, _, _, _, h, _⟩ => nomatch h
    exact ⟨fun vs H Q E q => (no _ _ _ _ q).elim, fun A outer s H args us vs Q E hr e0 hb hv q => (no _ _ _ _ q).elim⟩) hb
end
end K7
end
section
set_option maxRecDepth 100000
/-! K76, part m: worlds within worlds, defs that change the world, defs that raise. -/
namespace K7
open PySem L2
/-- the world G within W -/
structure Sub (W G : Wd) where
  get : W.S → G.S
  put : W.S → G.S → W.S
  at_ : ∀ a, G.at_ a → W.at_ a
  rel : ∀ M s H, W.rel M s H → G.rel M (get s) H
  back : ∀ (M : Addr → Prop) s H s' H', (∀ a, W.at_ a → M a) → W.rel M s H → Gr G H H' → G.rel M s' H' → W.rel M (put s s') H'
def Sub.id (W : Wd) : Sub W W := ⟨fun s => s, fun _ s => s, fun _ h => h, fun _ _ _ h => h, fun _ _ _ _ _ _ _ _ h => h⟩
def Sub.none (W : Wd) : Sub W W0 := ⟨fun _ => (), fun s _ => s, fun _ h => h.elim, fun _ _ _ _ => trivial, fun M s H s' H' hw r g _ => W.grow M s H H' (fun a o n e => g a o (fun z => z) e) r⟩
theorem Sub.gr {W G : Wd} (E : Sub W G) {H H' : Hp} (g : Gr G H H') : Gr W H H' := fun a o n e => g a o (fun z => n (E.at_ a z)) e
/-- two worlds side by side -/
def Wd.prod (A B : Wd) : Wd where
  S := A.S × B.S
  at_ a := A.at_ a ∨ B.at_ a
  rel M s H := A.rel M s.1 H ∧ B.rel M s.2 H
  grow M s H H' g r := ⟨A.grow M s.1 H H' (fun a o n e => g a o (n.elim (fun z => .inl (.inl z)) .inr) e) r.1, B.grow M s.2 H H' (fun a o n e => g a o (n.elim (fun z => .inl (.inr z)) .inr) e) r.2⟩
  more M M' s H m r := ⟨A.more M M' s.1 H m r.1, B.more M M' s.2 H m r.2⟩
  trk M s H a r h := h.elim (A.trk M s.1 H a r.1) (B.trk M s.2 H a r.2)
def Sub.fst {A B : Wd} (d : ∀ a, A.at_ a → B.at_ a → False) : Sub (A.prod B) A := ⟨fun s => s.1, fun s t => (t, s.2), fun _ h => .inl h, fun _ _ _ h => h.1, fun M s H s' H' hw r g r' =>
  ⟨r', B.grow M s.2 H H' (fun a o n e => g a o (fun z => n.elim (d a z) fun y => y (hw a (.inl z))) e) r.2⟩⟩
def Sub.snd {A B : Wd} (d : ∀ a, A.at_ a → B.at_ a → False) : Sub (A.prod B) B := ⟨fun s => s.2, fun s t => (s.1, t), fun _ h => .inr h, fun _ _ _ h => h.2, fun M s H s' H' hw r g r' =>
  ⟨A.grow M s.1 H H' (fun a o n e => g a o (fun z => n.elim (fun y => d a y z) fun y => y (hw a (.inr z))) e) r.1, r'⟩⟩
def fCallS {W G : Wd} (E : Sub W G) (n : Nat) (m : List D → G.S → Option (D × G.S)) (fs : AF W.S) : EF W.S := fun ρ s => (fs ρ s).bind fun p => if p.1.length = n then (m p.1 (E.get p.2)).map fun q => (q.1, E.put p.2 q.2) else none
section
variable {Ω : Type} {F : Ω → Wd} {ω : Ω} {W : Wd} {X : Cx} {e o : Expr} {es : List Expr} {ta : TA} {te : TE} {fs : AF W.S} {fo : EF W.S} {pos pos2 pos3 apos : Pos}
theorem de_callS {n : Nat} {m : ∀ ω, List D → (F ω).S → Option (D × (F ω).S)} (E : Sub W (F ω)) (ha : DA W ta fs) : DE W (tCall (spW F n m) [] E0 ta) (fCallS E n (m ω) fs) := by
  intro Mb ρ s σ H d s' R e Q q
  simp only [fCallS, Option.bind_eq_some_iff] at e
  obtain ⟨⟨ds, s1⟩, e1, e2⟩ := e
  split at e2
  · rename_i hn
    obtain ⟨⟨d', s2⟩, e3, e4⟩ := Option.map_eq_some_iff.mp e2
    cases e4
    refine ha Mb ρ s σ H ds _ R e1 _ fun vs H1 g1 w1 r1 => ?_
    have R1 := R.gr g1 w1
    show spW F n m (vs ++ []) H1 Q E0
    rw [List.append_nil]
    exact ⟨ω, MO Mb ρ σ, ds, d', E.get s1, s2, hn, fun a z => R.watM a (E.at_ a z), fun a => R1.moT, E.rel _ _ _ w1, r1, e3, fun v H2 g2 w2 r2 => q v H2 (g1.trans (E.gr g2)) (E.back _ _ _ _ _ R.watM w1 g2 w2) r2⟩
  · cases e2
theorem xe_callS {k n : Nat} {x : Str} {m : ∀ ω, List D → (F ω).S → Option (D × (F ω).S)} (E : Sub W (F ω)) (C : CalW X.prog X.w X.K X.mg X.base k x n F m) (hr : Room k X.A) (ha : XA W X (e :: es) fs) (hg : Gl X x := by rfl)
    (hdb : (x == ("__debug__" : Str)) = false := by decide) (he : starEach (e :: es) X.env = (false, eval e X.env) :: starEach es X.env := by rfl) (hpl : (backTo pos (starEach es X.env)).any (·.1) = false := by rfl) :
    XE W X (.Call (.Name x pos2) (e :: es) [] pos) (fCallS E n (m ω) fs) := by
  obtain ⟨f, fd, ps, h1, h2, h3, h4, h5⟩ := C.ex
  exact ⟨pe_call h2 hr hg h3 h4 h5 .nil pass0 ha.p hdb he hpl, de_callS E ha.d⟩
end

/-! ### defs that change the world -/
def runW {S : Type} (n : Nat) (f : SF S) (ds : List D) (s : S) : Option (D × S) := match f (ds.map SV.im ++ List.replicate (n - ds.length) SV.un) s with
  | .rt d s' => some (d, s')
  | .nx _ s' => some (.non, s')
  | _ => none
section
variable {P : Program} {w : World} {K : PySem.W.Frag} {mg : Str → Option Value} {base : Heap} {x name qual : Str} {params : Arguments} {body : List Stmt} {scope : Scope} {f : Addr} {fd : FuncData} {N ps : List Str} {k n : Nat} {st : Stmt}
theorem ok_eff {Ω : Type} {W : Ω → Wd} {m : ∀ ω, List D → (W ω).S → Option (D × (W ω).S)} (F : ∀ ω, SF (W ω).S) (hm : m = fun ω => runW N.length (F ω)) (D : FunD K x qual params body scope [] [] f fd) (S : FnScope N ps scope) (hn : ps.length = n) (hN : n ≤ N.length)
    (h : ∀ (ω : Ω) (cdv : Value) (A : Around) (outer : List Env) (s : Shared) (H : Hp) (E : XK), Room k (A.deeper (PyProof.Rows.envOfC qual scope s.heap.objs.size f cdv)) → XSs (W ω) noEX (cxOf CX0 P w K mg base N qual scope f cdv A outer s H E).nox body (F ω)) :
    FnOk P w K mg base CX0 (k + 1) f fd ps (spW W n m) := by
  subst hm
  refine D.ok S (fun vs H Q E q => ?_) fun cdv A outer s H vs Q E hr q => ?_
  · obtain ⟨ω, Mb, ds, d, s1, s2, h1, h2, h3, h4, h5, _⟩ := q
    rw [h5.length, h1, hn]
  · obtain ⟨ω, Mb, ds, d, s1, s2, h1, h2, h3, h4, h5, h6, h7⟩ := q
    have ht := h ω cdv A outer s H E hr
    refine ⟨_, PSs.nox ht.p, ?_⟩
    obtain ⟨R, no⟩ := start_rel (N := N) (by omega) h2 h3 h5 h4
    refine ht.d Mb _ s1 _ H _ R ?_
    replace h6 : runW N.length (F ω) ds s1 = some (d, s2) := h6
    unfold runW at h6
    have ex : ∀ H', GrO (W ω) (ds.map SV.im ++ List.replicate (N.length - ds.length) SV.un) (L2.start N vs) H H' → Gr (W ω) H H' := fun H' g a o n e => g a o n (no a) e
    split at h6
    · rename_i d' s' e
      cases h6
      rw [e]
      exact fun v H' g w r => h7 v H' (ex H' g) w r
    · rename_i ρ' s' e
      cases h6
      rw [e]
      exact fun σ' H' g _ R' => h7 _ H' (ex H' g) (R'.base_rel R'.world) rep_non
    · cases h6
theorem calW_mk {Ω : Type} {W : Ω → Wd} {m : ∀ ω, List D → (W ω).S → Option (D × (W ω).S)} (D : Def K mg x name qual st f fd) (hn : ps.length = n) (F : FnOk P w K mg base CX0 k f fd ps (spW W n m))
    (hb : ∀ (kV doc pm : Value) (an : Option Addr) (cdv ct : Value) (us : List Value), us.length = ps.length → bindArgs (PySem.W.fnOf name qual (defArgs st) (defBody st) (defScope st) .none kV doc pm an cdv ct) ⟨us, []⟩ = pure (ps.zip us)) : CalW P w K mg base k x n W m :=
  ⟨f, fd, ps, hn, F, D.at_, D.fn.kp, D.fn.bindsN hb⟩
theorem calW_zero {Ω : Type} {W : Ω → Wd} (D : Def K mg x name qual st f fd) (hn : ps.length = n)
    (hb : ∀ (kV doc pm : Value) (an : Option Addr) (cdv ct : Value) (us : List Value), us.length = ps.length → bindArgs (PySem.W.fnOf name qual (defArgs st) (defBody st) (defScope st) .none kV doc pm an cdv ct) ⟨us, []⟩ = pure (ps.zip us)) : CalW P w K mg base k x n W (fun _ _ _ => none) :=
  calW_mk D hn (by
    have no : ∀ vs H Q E, ¬ spW W n (fun _ _ _ => none) vs H Q E := fun vs H Q E ⟨_, _, _, _, _, _, _, _, _, _, _, h, _⟩ => nomatch h
    exact ⟨fun vs H Q E q => (no _ _ _ _ q).elim, fun A outer s H args us vs Q E hr e0 hb hv q => (no _ _ _ _ q).elim⟩) hb
end

/-! ### defs that may raise NotPossible -/
abbrev Res := D ⊕ Str
def spX {Ω : Type} (C : Addr) (F : Ω → Wd) (n : Nat) (m : ∀ ω, List D → (F ω).S → Option (Res × (F ω).S)) : Sp := fun vs H Q E => ∃ (ω : Ω) (Mb : Addr → Prop) (ds : List D) (r : Res) (s s' : (F ω).S), ds.length = n ∧ (∀ a, (F ω).at_ a → Mb a) ∧ (∀ a, Mb a → H a ≠ none) ∧
  (F ω).rel Mb s H ∧ RepL Mb H ds vs ∧ m ω ds s = some (r, s') ∧ match r with
    | .inl d => ∀ v H', Gr (F ω) H H' → (F ω).rel Mb s' H' → Rep Mb H' d v → Q v H'
    | .inr why => ∀ dx H', Gr (F ω) H H' → (F ω).rel Mb s' H' → H' dx = some (.xd [("why", .str why)]) → E (.ref C) (some dx) H'
structure CalX (P : Program) (w : World) (K : PySem.W.Frag) (mg : Str → Option Value) (base : Heap) (k : Nat) (x : Str) (C : Addr) (n : Nat) {Ω : Type} (F : Ω → Wd) (m : ∀ ω, List D → (F ω).S → Option (Res × (F ω).S)) : Prop where
  ex : ∃ (f : Addr) (fd : FuncData) (ps : List Str), ps.length = n ∧ FnOk P w K mg base (L2.CX P w) k f fd ps (spX C F n m) ∧ mg x = some (.ref f) ∧ PySem.W.keepIn K (.ref f) = true ∧ Binds K fd ps []
/-- what is wanted of the exception: handed on to Wx -/
def Hand (C : Addr) (EX : NX) (Wx : WX) : Prop := ∀ why dx σ H, EX why dx H → Wx (.ref C) (some dx) σ H
def fSetR {W G : Wd} (E : Sub W G) (i n : Nat) (m : List D → G.S → Option (Res × G.S)) (fs : AF W.S) : SF W.S := fun ρ s => match fs ρ s with
  | some (ds, s1) => if ds.length = n then match m ds (E.get s1) with
      | some (.inl d, s2) => .nx (ρ.set i (.im d)) (E.put s1 s2)
      | some (.inr y, s2) => .np y (E.put s1 s2)
      | none => .no
    else .no
  | none => .no
/-- return (a, f(..)) -/
def fRetR {W G : Wd} (E : Sub W G) (fa : EF W.S) (n : Nat) (m : List D → G.S → Option (Res × G.S)) (fs : AF W.S) : SF W.S := fun ρ s => match fa ρ s with
  | some (d0, s0) => match fs ρ s0 with
    | some (ds, s1) => if ds.length = n then match m ds (E.get s1) with
        | some (.inl d, s2) => .rt (.tup [d0, d]) (E.put s1 s2)
        | some (.inr y, s2) => .np y (E.put s1 s2)
        | none => .no
      else .no
    | none => .no
  | none => .no
section
variable {Ω : Type} {F : Ω → Wd} {ω : Ω} {W : Wd} {EX : NX} {X : Cx} {e o a : Expr} {es : List Expr} {ta : TA} {te : TE} {fs : AF W.S} {fo fa : EF W.S} {pos pos2 pos3 apos p1 p2 p3 : Pos} {C : Addr} {Wx : WX}
theorem ds_setR {i n : Nat} {m : ∀ ω, List D → (F ω).S → Option (Res × (F ω).S)} (E : Sub W (F ω)) (hW : Hand C EX Wx) (ha : DA W ta fs) : DS W EX (tAsg (tCallS (spX C F n m) (WE Wx) ta) (gName i)) (fSetR E i n (m ω) fs) := by
  intro Mb ρ s σ H D R q
  unfold fSetR at q
  split at q
  · rename_i ds s1 e1
    split at q
    · rename_i hn
      refine ha Mb ρ s σ H ds s1 R e1 _ fun vs H1 g1 w1 r1 => ?_
      have R1 := R.gr g1 w1
      split at q
      · rename_i d s2 e2
        refine ⟨ω, MO Mb ρ σ, ds, .inl d, E.get s1, s2, hn, fun a z => R.watM a (E.at_ a z), fun a => R1.moT, E.rel _ _ _ w1, r1, e2, fun v H2 g2 w2 r2 => ?_⟩
        have R2 := R1.gr (E.gr g2) (E.back _ _ _ _ _ R.watM w1 g2 w2)
        exact q _ H2 (.of (g1.trans (E.gr g2))) (fun a ⟨i, h⟩ => .inl ⟨i, h.set_im⟩) (R2.set_im r2)
      · rename_i y s2 e2
        refine ⟨ω, MO Mb ρ σ, ds, .inr y, E.get s1, s2, hn, fun a z => R.watM a (E.at_ a z), fun a => R1.moT, E.rel _ _ _ w1, r1, e2, fun dx H2 g2 w2 hx => ?_⟩
        exact hW y dx σ H2 (q dx H2 (.of (g1.trans (E.gr g2))) (R.base_rel (E.back _ _ _ _ _ R.watM w1 g2 w2)) hx)
      · exact q.elim
    · exact q.elim
  · exact q.elim
theorem xs_setR (i : Nat) {k n : Nat} {x y : Str} {m : ∀ ω, List D → (F ω).S → Option (Res × (F ω).S)} (E : Sub W (F ω)) (Cl : CalX X.prog X.w X.K X.mg X.base k x C n F m) (hr : Room k X.A) (tk : Takes X Wx) (hW : Hand C EX Wx) (hN : X.N.Nodup) (ha : XA W X (e :: es) fs) (hg : Gl X x := by rfl)
    (hi : X.N[i]? = some y := by rfl) (hx : Loc X.env.scope y := by first | exact Or.inl rfl | exact Or.inr rfl) (hs : swapsWith (.Call (.Name x p2) (e :: es) [] p1) (some (.Name y p3)) pos.line X.env = pure false := by rfl)
    (hf : X.fn y = true ∨ X.env.scope.names.lookup y = some .local := by first | exact .inl rfl | exact .inr rfl)
    (hdb : (x == ("__debug__" : Str)) = false := by decide) (he : starEach (e :: es) X.env = (false, eval e X.env) :: starEach es X.env := by rfl) (hpl : (backTo p1 (starEach es X.env)).any (·.1) = false := by rfl) :
    XS W EX X (.Assign [.Name y p3] (.Call (.Name x p2) (e :: es) [] p1) pos) (fSetR E i n (m ω) fs) := by
  obtain ⟨f, fd, ps, h1, h2, h3, h4, h5⟩ := Cl.ex
  exact ⟨ps_set hN hi hx (pe_callS h2 hr hg h3 h4 h5 (fun σ => passAt tk σ) ha.p hdb he hpl) hs hf, ds_setR E hW ha.d⟩
theorem ds_retR {n : Nat} {m : ∀ ω, List D → (F ω).S → Option (Res × (F ω).S)} (E : Sub W (F ω)) (hW : Hand C EX Wx) (h0 : DE W te fa) (ha : DA W ta fs) : DS W EX (tRet (tTup (tCons te (tCons (tCallS (spX C F n m) (WE Wx) ta) tNil)))) (fRetR E fa n (m ω) fs) := by
  intro Mb ρ s σ H D R q
  unfold fRetR at q
  split at q
  · rename_i d0 s0 e0
    split at q
    · rename_i ds s1 e1
      split at q
      · rename_i hn
        refine h0 Mb ρ s σ H d0 s0 R e0 _ fun v0 H0 g0 w0 r0 => ?_
        have R0 := R.gr g0 w0
        refine ha Mb ρ s0 σ H0 ds s1 R0 e1 _ fun vs H1 g1 w1 r1 => ?_
        have R1 := R0.gr g1 w1
        split at q
        · rename_i d s2 e2
          refine ⟨ω, MO Mb ρ σ, ds, .inl d, E.get s1, s2, hn, fun a z => R.watM a (E.at_ a z), fun a => R1.moT, E.rel _ _ _ w1, r1, e2, fun v H2 g2 w2 r2 => ?_⟩
          have w2' := E.back _ _ _ _ _ R.watM w1 g2 w2
          have R2 := R1.gr (E.gr g2) w2'
          have g12 := g1.trans (E.gr g2)
          refine ⟨lim_ok (by show 2 ≤ LIM; decide), new_tup R2.mok (.cons (r0.grow (gr_mo R.watM g12)) (.cons r2 .nil)) fun v H3 x3 r3 => ?_⟩
          exact q v H3 (.of ((g0.trans g12).trans x3.gr)) (R.base_rel (W.ex x3 w2')) (r3.more fun a h => .inl (.inl h))
        · rename_i y s2 e2
          refine ⟨ω, MO Mb ρ σ, ds, .inr y, E.get s1, s2, hn, fun a z => R.watM a (E.at_ a z), fun a => R1.moT, E.rel _ _ _ w1, r1, e2, fun dx H2 g2 w2 hx => ?_⟩
          exact hW y dx σ H2 (q dx H2 (.of ((g0.trans g1).trans (E.gr g2))) (R.base_rel (E.back _ _ _ _ _ R.watM w1 g2 w2)) hx)
        · exact q.elim
      · exact q.elim
    · exact q.elim
  · exact q.elim
theorem xs_retR {k n j : Nat} {x : Str} {m : ∀ ω, List D → (F ω).S → Option (Res × (F ω).S)} (E : Sub W (F ω)) (Cl : CalX X.prog X.w X.K X.mg X.base k x C n F m) (hr : Room k X.A) (tk : Takes X Wx) (hW : Hand C EX Wx) (h0 : XE W X a fa) (ha : XA W X (e :: es) fs) (hg : Gl X x := by rfl)
    (hdb : (x == ("__debug__" : Str)) = false := by decide) (he : starEach (e :: es) X.env = (false, eval e X.env) :: starEach es X.env := by rfl) (hpl : (backTo p1 (starEach es X.env)).any (·.1) = false := by rfl)
    (hs : starEach [a, .Call (.Name x p2) (e :: es) [] p1] X.env = (false, eval a X.env) :: starEach [.Call (.Name x p2) (e :: es) [] p1] X.env := by rfl) (hs2 : starEach [.Call (.Name x p2) (e :: es) [] p1] X.env = (false, eval (.Call (.Name x p2) (e :: es) [] p1) X.env) :: starEach [] X.env := by rfl) :
    XS W EX X (.Return (some (.Tuple [a, .Call (.Name x p2) (e :: es) [] p1] j p3)) pos) (fRetR E fa n (m ω) fs) := by
  obtain ⟨f, fd, ps, h1, h2, h3, h4, h5⟩ := Cl.ex
  exact ⟨ps_ret (pe_tup (pa_cons h0.p (pa_cons (pe_callS h2 hr hg h3 h4 h5 (fun σ => passAt tk σ) ha.p hdb he hpl) pa_nil hs2) hs)), ds_retR E hW h0.d ha.d⟩
/-- a def that may raise -/
def runX {S : Type} (n : Nat) (f : SF S) (ds : List D) (s : S) : Option (Res × S) := match f (ds.map SV.im ++ List.replicate (n - ds.length) SV.un) s with
  | .rt d s' => some (.inl d, s')
  | .nx _ s' => some (.inl .non, s')
  | .np y s' => some (.inr y, s')
  | .no => none
end
section
variable {P : Program} {w : World} {K : PySem.W.Frag} {mg : Str → Option Value} {base : Heap} {x name qual : Str} {params : Arguments} {body : List Stmt} {scope : Scope} {f C : Addr} {fd : FuncData} {N ps : List Str} {k n : Nat} {st : Stmt}
theorem ok_rais {Ω : Type} {W : Ω → Wd} {m : ∀ ω, List D → (W ω).S → Option (Res × (W ω).S)} (F : ∀ ω, SF (W ω).S) (hm : m = fun ω => runX N.length (F ω)) (D : FunD K x qual params body scope [] [] f fd) (S : FnScope N ps scope) (hn : ps.length = n) (hN : n ≤ N.length)
    (h : ∀ (ω : Ω) (cdv : Value) (A : Around) (outer : List Env) (s : Shared) (H : Hp) (E : XK), Room k (A.deeper (PyProof.Rows.envOfC qual scope s.heap.objs.size f cdv)) →
      Takes (cxOf (L2.CX P w) P w K mg base N qual scope f cdv A outer s H E) (fun cls d _ H => E cls d H) → XSs (W ω) (fun why dx H => E (.ref C) (some dx) H) (cxOf (L2.CX P w) P w K mg base N qual scope f cdv A outer s H E) body (F ω)) :
    FnOk P w K mg base (L2.CX P w) (k + 1) f fd ps (spX C W n m) := by
  subst hm
  refine D.ok S (fun vs H Q E q => ?_) fun cdv A outer s H vs Q E hr q => ?_
  · obtain ⟨ω, Mb, ds, d, s1, s2, h1, h2, h3, h4, h5, _⟩ := q
    rw [h5.length, h1, hn]
  · obtain ⟨ω, Mb, ds, d, s1, s2, h1, h2, h3, h4, h5, h6, h7⟩ := q
    have ht := h ω cdv A outer s H E hr (takes_of rfl rfl rfl rfl)
    refine ⟨_, ht.p, ?_⟩
    obtain ⟨R, no⟩ := start_rel (N := N) (by omega) h2 h3 h5 h4
    refine ht.d Mb _ s1 _ H _ R ?_
    replace h6 : runX N.length (F ω) ds s1 = some (d, s2) := h6
    unfold runX at h6
    have ex : ∀ H', GrO (W ω) (ds.map SV.im ++ List.replicate (N.length - ds.length) SV.un) (L2.start N vs) H H' → Gr (W ω) H H' := fun H' g a o n e => g a o n (no a) e
    split at h6
    · rename_i d' s' e
      cases h6
      rw [e]
      exact fun v H' g w r => h7 v H' (ex H' g) w r
    · rename_i ρ' s' e
      cases h6
      rw [e]
      exact fun σ' H' g _ R' => h7 _ H' (ex H' g) (R'.base_rel R'.world) rep_non
    · rename_i y s' e
      cases h6
      rw [e]
      exact fun dx H' g w r => h7 dx H' (ex H' g) w r
    · cases h6
theorem calX_mk {Ω : Type} {W : Ω → Wd} {m : ∀ ω, List D → (W ω).S → Option (Res × (W ω).S)} (D : Def K mg x name qual st f fd) (hn : ps.length = n) (F : FnOk P w K mg base (L2.CX P w) k f fd ps (spX C W n m))
    (hb : ∀ (kV doc pm : Value) (an : Option Addr) (cdv ct : Value) (us : List Value), us.length = ps.length → bindArgs (PySem.W.fnOf name qual (defArgs st) (defBody st) (defScope st) .none kV doc pm an cdv ct) ⟨us, []⟩ = pure (ps.zip us)) : CalX P w K mg base k x C n W m :=
  ⟨f, fd, ps, hn, F, D.at_, D.fn.kp, D.fn.bindsN hb⟩
end
end K7
end
section
set_option maxRecDepth 100000
/-! K76, part n: NotPossible; the stream; the garden. -/
namespace K7
open PySem L2
/-! ### raise NotPossible(..) -/
def spI (C : Addr) : Sp := fun vs H Q _ => ∃ (a : Addr) (v : V), vs = [.ref a, v] ∧ H a = some (exo a C none) ∧ ∀ dx, H dx = none → dx ≠ a → Q .non (upd (upd H dx (exd dx [("why", v)])) a (exo a C (some dx)))
/-- what the top says of NotPossible -/
structure NpT (K : PySem.W.Frag) (mg : Str → Option Value) (C fI : Addr) : Prop where
  gC : mg "NotPossible" = some (.ref C)
  oex : OexC K C
  xf : XfC K C
  noW : PySem.W.findIn K (.ref C) "why" = some none
  te : PySem.W.exmOne K (.ref C) (.ref C) = some true
  iC : PySem.W.findIn K (.ref C) "__init__" = some (some (.ref fI))
  tI : PySem.W.typeIn K (.ref fI) = some (.type "function")
structure Np (P : Program) (w : World) (K : PySem.W.Frag) (mg : Str → Option Value) (base : Heap) (C : Addr) : Prop where
  ex : ∃ (fI : Addr) (fd : FuncData), NpT K mg C fI ∧ FnOk P w K mg base CX0 1 fI fd ["self", "why"] (spI C) ∧ Binds K fd ["self", "why"] []
def fRaise {S : Type} (m : Str) : SF S := fun _ s => .np m s
section
variable {W : Wd} {EX : NX} {X : Cx} {C fI : Addr} {Wx : WX} {m : Str} {j : Nat} {p p1 p2 pos : Pos}
theorem ds_raise (hW : Hand C EX Wx) : DS W EX (fun _ σ H => tMkO C (spI C) [] (tCons (tC (.str m)) tNil) σ H fun cls d H' => Wx cls d σ H') (fRaise m) := by
  intro Mb ρ s σ H D R q
  show (1 ≤ 1000 ∧ ∀ a, H a = none → spI C (.ref a :: ([V.str m] ++ [])) (upd H a (exo a C none)) _ _)
  refine ⟨by decide, fun a ha => ⟨a, .str m, rfl, upd_same, fun dx hd hne => ⟨rfl, dx, [("why", .str m)], upd_same, ?_, ?_, ?_⟩⟩⟩
  · rw [upd_ne hne, upd_same]
  · rw [upd_ne hne] at hd
    exact hd
  · rw [upd_ne hne] at hd
    have ex : Exh H (upd (del (upd (upd (upd H a (exo a C none)) dx (exd dx [("why", .str m)])) a (exo a C (some dx))) a) dx (.xd [("why", .str m)])) := fun b o e => by
      have nb := ne_of_none e hd
      have na := ne_of_none e ha
      rw [upd_ne nb, del_ne na, upd_ne na, upd_ne nb, upd_ne na]
      exact e
    exact hW m dx σ _ (q dx _ (.of ex.gr) (R.base_rel (W.ex ex R.world)) upd_same)
theorem xs_raise (N : Np X.prog X.w X.K X.mg X.base C) (hr : Room 2 X.A) (tk : Takes X Wx) (hW : Hand C EX Wx) (hc : X.calm = true := by rfl) (hg : Gl X "NotPossible" := by rfl) 
    (he : starEach [.Constant (.str m) j p2] X.env = (false, eval (.Constant (.str m) j p2) X.env) :: starEach [] X.env := by rfl) :
    XS W EX X (.Raise (some (.Call (.Name "NotPossible" p) [.Constant (.str m) j p2] [] p1)) none pos) (fRaise m) := by
  obtain ⟨fI, fd, T, F, b⟩ := N.ex
  exact ⟨ps_raise hc tk (pmk_oex T.oex T.iC T.tI F hr b .nil pass0 hg T.gC (pa_cons pe_str pa_nil he)), ds_raise hW⟩
/-- a statement that the run never comes to -/
theorem xs_never {st : Stmt} : XS W EX X st (fun _ _ => .no) := ⟨ps_never, fun _ _ _ _ _ _ _ q => q.elim⟩
theorem xs_pass (hc : True := trivial) : XS W EX X (.Pass pos) fNext := ⟨ps_pass, ds_next⟩
/-- a, b = x, y -/
theorem xs_par (i k : Nat) {x y : Str} {a b : Expr} {fs : AF W.S} {px py pt pt2 : Pos} {kt k2 : Nat} (hN : X.N.Nodup) (ha : XA W X [a, b] fs) (hc : X.calm = true := by rfl) (hi : X.N[i]? = some x := by rfl) (hj : X.N[k]? = some y := by rfl) (hij : i ≠ k := by decide)
    (hx : X.env.scope.names.lookup x = some .local := by rfl) (hy : X.env.scope.names.lookup y = some .local := by rfl) (hw : swappedStores [.Tuple [.Name x px, .Name y py] kt pt] (.Tuple [a, b] k2 pt2) X.env = pure (some [x, y]) := by rfl)
    (hs : swapsWithSole [.Tuple [.Name x px, .Name y py] kt pt] (.Tuple [a, b] k2 pt2) pos.line X.env = pure false := by rfl) :
    XS W EX X (.Assign [.Tuple [.Name x px, .Name y py] kt pt] (.Tuple [a, b] k2 pt2) pos) (fPar i k fs) := ⟨ps_par hc hN hi hj hij hx hy ha.p hw hs, ds_par ha.d⟩
end

/-! ### the stream -/
structure SO where
  ps : Addr
  pl : Addr
  ns : List Int
def SW (ω : SO) : Wd where
  S := Int × Nat
  at_ a := a = ω.ps
  rel M s H := H ω.ps = some (.lst [.ref ω.pl, .int s.1, .int s.2]) ∧ H ω.pl = some (.lst (ω.ns.map V.int)) ∧ ¬ M ω.pl
  grow M s H H' g r := ⟨g _ _ (.inl rfl) r.1, g _ _ (.inr r.2.2) r.2.1, r.2.2⟩
  more M M' s H m r := ⟨r.1, r.2.1, fun z => (m _ z).elim r.2.2 fun y => by rw [r.2.1] at y; cases y⟩
  trk M s H a r h := by
    rw [h, r.1]
    intro z
    cases z
def sGet (ns : List Int) (s : Int × Nat) (i : Int) : Option D := if i = 0 then some (.lst (ns.map D.int)) else if i = 1 then some (.int s.1) else if i = 2 then some (.int s.2) else none
/-- the stream's things by place -/
def fSg (ω : SO) (fa fb : EF (Int × Nat)) : EF (Int × Nat) := fun ρ s => (fa ρ s).bind fun p => (fb ρ p.2).bind fun q => match p.1, q.1 with
  | .h a, .int i => if a = ω.ps then (sGet ω.ns q.2 i).map fun d => (d, q.2) else none
  | _, _ => none
section
variable {ω : SO} {EX : NX} {X : Cx} {a b e : Expr} {ta tb te : TE} {fa fb fe : EF (Int × Nat)} {pos pos2 p3 : Pos}
theorem de_sg {K : PySem.W.Frag} (ha : DW (SW ω) ta fa) (hb : DW (SW ω) tb fb) : DE (SW ω) (tOp (rIx K) ta tb) (fSg ω fa fb) := by
  intro Mb ρ s σ H d s' R e Q q
  unfold fSg at e
  obtain ⟨⟨dx, s1⟩, e1, e⟩ := Option.bind_eq_some_iff.mp e
  obtain ⟨⟨dy, s2⟩, e2, e3⟩ := Option.bind_eq_some_iff.mp e
  simp only at e3
  refine ha Mb ρ s σ H dx s1 R e1 _ fun x H1 g1 w1 r1 => ?_
  have R1 := R.gr g1 w1
  refine hb Mb ρ s1 σ H1 dy s2 R1 e2 _ fun y H2 g2 w2 r2 => ?_
  have R2 := R1.gr g2 w2
  split at e3
  · rename_i _ _ p i
    split at e3
    · rename_i hp
      subst hp
      obtain ⟨d', e4, e5⟩ := Option.map_eq_some_iff.mp e3
      cases e5
      obtain ⟨k1, k2, k3⟩ := w2
      have hx : x = .ref ω.ps := r1
      have hy : y = .int i := repw_int r2
      unfold sGet at e4
      have g := g1.trans g2
      split at e4
      · rename_i h0
        cases e4
        refine .inl ⟨ω.ps, _, i, .ref ω.pl, hx, hy, .of k1, by subst h0; rfl, q _ H2 g ⟨k1, k2, k3⟩ (rep_lst k3 k2 RepL.ofInts)⟩
      · split at e4
        · rename_i h0
          cases e4
          refine .inl ⟨ω.ps, _, i, _, hx, hy, .of k1, by subst h0; rfl, q _ H2 g ⟨k1, k2, k3⟩ rep_int⟩
        · split at e4
          · rename_i h0
            cases e4
            refine .inl ⟨ω.ps, _, i, _, hx, hy, .of k1, by subst h0; rfl, q _ H2 g ⟨k1, k2, k3⟩ rep_int⟩
          · cases e4
    · cases e3
  · cases e3
theorem xe_sg (ha : XW (SW ω) X a fa) (hb : XW (SW ω) X b fb) (hs : PlainIx b := by exact fun _ _ => rfl) : XE (SW ω) X (.Subscript a b pos) (fSg ω fa fb) := ⟨pe_ix ix_seq ha.p hb.p hs, de_sg ha.d hb.d⟩
/-- stream[1] = e, stream[2] = e -/
def fSs (ω : SO) (fa : EF (Int × Nat)) (i : Int) (fe : EF (Int × Nat)) : SF (Int × Nat) := fun ρ s => match fe ρ s with
  | some (.int v, s1) => match fa ρ s1 with
    | some (.h a, s2) => if a = ω.ps then (if i = 1 then .nx ρ (v, s2.2) else if i = 2 ∧ 0 ≤ v then .nx ρ (s2.1, v.toNat) else .no) else .no
    | _ => .no
  | _ => .no
theorem ds_ss {i : Int} (he : DE (SW ω) te fe) (ha : DE (SW ω) ta fa) : DS (SW ω) EX (tAsg te (gSub ta (tC (.int i)) rSetL)) (fSs ω fa i fe) := by
  intro Mb ρ s σ H D R q
  unfold fSs at q
  split at q
  · rename_i v s1 e1
    split at q
    · rename_i p s2 e2
      split at q
      · rename_i hp
        subst hp
        refine he Mb ρ s σ H _ s1 R e1 _ fun y H1 g1 w1 r1 => ?_
        have R1 := R.gr g1 w1
        refine ha Mb ρ s1 σ H1 _ s2 R1 e2 _ fun x H2 g2 w2 r2 => ?_
        have R2 := R1.gr g2 w2
        simp only [Rep] at r1 r2
        subst r1 r2
        obtain ⟨k1, k2, k3⟩ := w2
        have npl : ω.pl ≠ ω.ps := fun z => k3 (R.watM _ z)
        have gs : ∀ {o : HO}, Gr (SW ω) H (upd H2 ω.ps o) := fun {o} a u n e => by
          rw [upd_ne n]
          exact (g1.trans g2) a u n e
        have kp : ∀ {o : HO}, (upd H2 ω.ps o) ω.pl = some (.lst (ω.ns.map V.int)) := fun {o} => by rw [upd_ne npl]; exact k2
        split at q
        · rename_i hi
          subst hi
          exact ⟨ω.ps, _, 1, 1, rfl, rfl, k1, rfl, q _ _ (.of gs) .refl (R.gr gs ⟨upd_same, kp, k3⟩)⟩
        · split at q
          · rename_i hi
            obtain ⟨hi, hv⟩ := hi
            subst hi
            refine ⟨ω.ps, _, 2, 2, rfl, rfl, k1, rfl, q _ _ (.of gs) .refl (R.gr gs ⟨?_, kp, k3⟩)⟩
            rw [upd_same, show ((v.toNat : Nat) : Int) = v by omega]
            rfl
          · exact q.elim
      · exact q.elim
    · exact q.elim
  · exact q.elim
theorem xs_ss {i : Int} {j : Nat} (he : XE (SW ω) X e fe) (ha : XE (SW ω) X a fa) (hs : swapsWithSole [.Subscript a (.Constant (.int i) j p3) pos2] e pos.line X.env = pure false := by rfl) (hw : swappedStores [.Subscript a (.Constant (.int i) j p3) pos2] e X.env = pure none := by rfl)
    (h1 : (assignEach [.Subscript a (.Constant (.int i) j p3) pos2] X.env).map (·.2) = [assign (.Subscript a (.Constant (.int i) j p3) pos2) X.env] := by rfl)
    (hsub : ∀ v, assign (.Subscript a (.Constant (.int i) j p3) pos2) X.env v = (do
      let ov ← holding [v] (eval a X.env)
      let iv ← holding [v, ov] (eval (.Constant (.int i) j p3) X.env)
      standAt pos2
      holding [v, ov, iv] (setItem ov iv v)
      release [v, ov, iv] []) := by intro _; rfl) : XS (SW ω) EX X (.Assign [.Subscript a (.Constant (.int i) j p3) pos2] e pos) (fSs ω fa i fe) :=
  ⟨ps_asg he.p (pg_sub ha.p pe_int set_list hsub) hs hw h1, ds_ss he.d ha.d⟩
end
/-! ### the garden -/
structure GO where
  C : Addr
  pg : Addr
  pp : Addr
  first : D
def gfs (vf vc : V) (pp : Addr) : List (Str × V) := [("first", vf), ("past", .ref pp), ("commands", vc)]
def GW (ω : GO) : Wd where
  S := List D × List D
  at_ a := a = ω.pg ∨ a = ω.pp
  rel M s H := ∃ dx vf vc vs, H ω.pg = some (.ins ω.C dx (gfs vf vc ω.pp)) ∧ Rep M H ω.first vf ∧ H ω.pp = some (.lst vs) ∧ RepL M H s.1 vs ∧ Rep M H (.tup s.2) vc
  grow M s H H' g r := by
    obtain ⟨dx, vf, vc, vs, h1, h2, h3, h4, h5⟩ := r
    have g' : ∀ a o, ¬ M a → H a = some o → H' a = some o := fun a o n e => g a o (.inr n) e
    exact ⟨dx, vf, vc, vs, g _ _ (.inl (.inl rfl)) h1, h2.grow g', g _ _ (.inl (.inr rfl)) h3, h4.grow g', h5.grow g'⟩
  more M M' s H m r := by
    obtain ⟨dx, vf, vc, vs, h1, h2, h3, h4, h5⟩ := r
    exact ⟨dx, vf, vc, vs, h1, h2.more m, h3, h4.more m, h5.more m⟩
  trk M s H a r h := by
    obtain ⟨dx, vf, vc, vs, h1, h2, h3, h4, h5⟩ := r
    rcases h with h | h
    · rw [h, h1]
      intro z
      cases z
    · rw [h, h3]
      intro z
      cases z
/-- what the top says of Garden -/
structure GaT (K : PySem.W.Frag) (C : Addr) : Prop where
  cl : Cls K C
  nF : NoAttr K C "first"
  nP : NoAttr K C "past"
  nC : NoAttr K C "commands"
theorem lk_no {m : Str} {vf vc : V} {pp : Addr} (h1 : (m == ("first" : Str)) = false) (h2 : (m == ("past" : Str)) = false) (h3 : (m == ("commands" : Str)) = false) : (gfs vf vc pp).lookup m = none := by
  simp [gfs, List.lookup, h1, h2, h3]
theorem ne_fp : (("past" : Str) == ("first" : Str)) = false := by decide
theorem ne_fc : (("commands" : Str) == ("first" : Str)) = false := by decide
theorem ne_pc : (("commands" : Str) == ("past" : Str)) = false := by decide
theorem lk_f {vf vc : V} {pp : Addr} : (gfs vf vc pp).lookup ("first" : Str) = some vf := by simp [gfs, List.lookup]
theorem lk_p {vf vc : V} {pp : Addr} : (gfs vf vc pp).lookup ("past" : Str) = some (.ref pp) := by simp [gfs, List.lookup, ne_fp]
theorem lk_c {vf vc : V} {pp : Addr} : (gfs vf vc pp).lookup ("commands" : Str) = some vc := by simp [gfs, List.lookup, ne_fc, ne_pc]
def isH (a : Addr) (d : D) : Bool := match d with
  | .h b => decide (b = a)
  | _ => false
theorem isH_eq {a : Addr} {d : D} (h : isH a d = true) : d = .h a := by
  cases d with
  | h b => rw [of_decide_eq_true (show decide (b = a) = true from h)]
  | _ => cases h
abbrev GS := List D × List D
def fGf (ω : GO) (fa : EF GS) : EF GS := fun ρ s => (fa ρ s).bind fun p => if isH ω.pg p.1 = true then some (ω.first, p.2) else none
def fGc (ω : GO) (fa : EF GS) : EF GS := fun ρ s => (fa ρ s).bind fun p => if isH ω.pg p.1 = true then some (.tup p.2.2, p.2) else none
def fGl (ω : GO) (fa : EF GS) : EF GS := fun ρ s => (fa ρ s).bind fun p => if isH ω.pg p.1 = true then p.2.1.getLast?.map fun d => (d, p.2) else none
def fGp (ω : GO) (fa : EF GS) (fe : EF GS) : SF GS := fun ρ s => match fa ρ s with
  | some (p, s1) => if isH ω.pg p = true then match fe ρ s1 with
      | some (d, s2) => if s2.1.length < LIM then .nx ρ (s2.1 ++ [d], s2.2) else .no
      | none => .no
    else .no
  | none => .no
def fGs (ω : GO) (fa : EF GS) (fe : EF GS) : SF GS := fun ρ s => match fe ρ s with
  | some (.tup ds, s1) => match fa ρ s1 with
    | some (p, s2) => if isH ω.pg p = true then .nx ρ (s2.1, ds) else .no
    | none => .no
  | _ => .no
section
variable {ω : GO} {EX : NX} {X : Cx} {a b e : Expr} {ta tb te : TE} {fa fb fe : EF GS} {pos pos2 p1 p2 p3 p4 apos cpos apos2 : Pos}
theorem de_gf {K : PySem.W.Frag} (T : GaT K ω.C) (ha : DE (GW ω) ta fa) : DE (GW ω) (tFld K ta "first") (fGf ω fa) := by
  intro Mb ρ s σ H d s' R e Q q
  unfold fGf at e
  obtain ⟨⟨dx, s1⟩, e1, e2⟩ := Option.bind_eq_some_iff.mp e
  simp only at e2
  split at e2
  · rename_i hh
    cases e2
    have hd := isH_eq hh
    have hd' : dx = .h ω.pg := hd
    subst hd'
    refine ha Mb ρ s σ H _ _ R e1 _ fun x H1 g1 w1 r1 => ?_
    simp only [Rep] at r1
    obtain ⟨dx, vf, vc, vs, h1, h2, h3, h4, h5⟩ := id w1
    exact ⟨ω.pg, ω.C, dx, _, vf, r1, h1, T.cl, T.nF, lk_f, q vf H1 g1 w1 h2⟩
  · cases e2
theorem xe_gf (T : GaT X.K ω.C) (ha : XE (GW ω) X a fa) (hb : attributeBase a "first" X.env (eval a X.env) = eval a X.env := by rfl) : XE (GW ω) X (.Attribute a "first" pos) (fGf ω fa) := ⟨pe_fld ha.p hb, de_gf T ha.d⟩
theorem de_gc {K : PySem.W.Frag} (T : GaT K ω.C) (ha : DE (GW ω) ta fa) : DE (GW ω) (tFld K ta "commands") (fGc ω fa) := by
  intro Mb ρ s σ H d s' R e Q q
  unfold fGc at e
  obtain ⟨⟨dx, s1⟩, e1, e2⟩ := Option.bind_eq_some_iff.mp e
  simp only at e2
  split at e2
  · rename_i hh
    cases e2
    have hd' : dx = .h ω.pg := isH_eq hh
    subst hd'
    refine ha Mb ρ s σ H _ _ R e1 _ fun x H1 g1 w1 r1 => ?_
    simp only [Rep] at r1
    obtain ⟨dx, vf, vc, vs, h1, h2, h3, h4, h5⟩ := id w1
    exact ⟨ω.pg, ω.C, dx, _, vc, r1, h1, T.cl, T.nC, lk_c, q vc H1 g1 w1 h5⟩
  · cases e2
theorem xe_gc (T : GaT X.K ω.C) (ha : XE (GW ω) X a fa) (hb : attributeBase a "commands" X.env (eval a X.env) = eval a X.env := by rfl) : XE (GW ω) X (.Attribute a "commands" pos) (fGc ω fa) := ⟨pe_fld ha.p hb, de_gc T ha.d⟩
theorem atI_last {α : Type} (xs : List α) (x : α) (h : xs.getLast? = some x) : atI xs (-1) = some x := by
  rw [List.getLast?_eq_getElem?] at h
  have hl : 0 < xs.length := by
    cases xs with
    | nil => simp at h
    | cons a r => simp
  unfold atI ixN
  rw [if_neg (by decide), if_pos (by omega)]
  show xs[((-1 : Int) + xs.length).toNat]? = some x
  rw [show ((-1 : Int) + xs.length).toNat = xs.length - 1 by omega]
  exact h
theorem RepL.last {M : Addr → Prop} {H : Hp} {ds : List D} {vs : List V} {d : D} (l : RepL M H ds vs) (h : ds.getLast? = some d) : ∃ v, vs.getLast? = some v ∧ Rep M H d v := by
  rw [List.getLast?_eq_getElem?] at h
  rw [List.getLast?_eq_getElem?, l.length]
  exact l.get h
def tNeg1 : TE := fun σ H Q => Q (.int (-1)) H
theorem de_gl {K : PySem.W.Frag} (T : GaT K ω.C) (ha : DE (GW ω) ta fa) (ht : ∀ σ H Q, Q (.int (-1)) H → tb σ H Q) : DE (GW ω) (tOp (rIx K) (tFld K ta "past") tb) (fGl ω fa) := by
  intro Mb ρ s σ H d s' R e Q q
  unfold fGl at e
  obtain ⟨⟨dx, s1⟩, e1, e2⟩ := Option.bind_eq_some_iff.mp e
  simp only at e2
  split at e2
  · rename_i hh
    obtain ⟨d', e3, e4⟩ := Option.map_eq_some_iff.mp e2
    cases e4
    have hd' : dx = .h ω.pg := isH_eq hh
    subst hd'
    refine ha Mb ρ s σ H _ _ R e1 _ fun x H1 g1 w1 r1 => ?_
    simp only [Rep] at r1
    obtain ⟨dx, vf, vc, vs, h1, h2, h3, h4, h5⟩ := id w1
    obtain ⟨v, hv, rv⟩ := h4.last e3
    refine ⟨ω.pg, ω.C, dx, _, .ref ω.pp, r1, h1, T.cl, T.nP, lk_p, ht _ _ _ ?_⟩
    exact .inl ⟨ω.pp, vs, -1, v, rfl, rfl, .of h3, atI_last _ _ hv, q v H1 g1 w1 rv⟩
  · cases e2
theorem xe_gl {j : Nat} (T : GaT X.K ω.C) (ha : XE (GW ω) X a fa) (hb : attributeBase a "past" X.env (eval a X.env) = eval a X.env := by rfl) (hs : PlainIx (.UnaryOp .USub (.Constant (.int 1) j p1) p2) := by exact fun _ _ => rfl) :
    XE (GW ω) X (.Subscript (.Attribute a "past" pos) (.UnaryOp .USub (.Constant (.int 1) j p1) p2) pos2) (fGl ω fa) := ⟨pe_ix ix_seq (pe_fld ha.p hb) (pe_un un_neg pe_int) hs, de_gl T ha.d fun σ H Q q => ⟨1, rfl, q⟩⟩
theorem ds_gp {K : PySem.W.Frag} (T : GaT K ω.C) (ha : DE (GW ω) ta fa) (he : DE (GW ω) te fe) : DS (GW ω) EX (tDrop (tBM K "list" rAppend (tFld K ta "past") (tCons te tNil))) (fGp ω fa fe) := by
  intro Mb ρ s σ H D R q
  unfold fGp at q
  split at q
  · rename_i p s1 e1
    split at q
    · rename_i hh
      have hd' : p = .h ω.pg := isH_eq hh
      subst hd'
      split at q
      · rename_i d s2 e2
        split at q
        · rename_i hz
          refine ha Mb ρ s σ H _ _ R e1 _ fun x H1 g1 w1 r1 => ?_
          have R1 := R.gr g1 w1
          simp only [Rep] at r1
          obtain ⟨dx, vf, vc, vs, h1, h2, h3, h4, h5⟩ := id w1
          refine ⟨ω.pg, ω.C, dx, _, .ref ω.pp, r1, h1, T.cl, T.nP, lk_p, ?_, ?_⟩
          · exact .inl ⟨rfl, _, .of h3⟩
          · refine he Mb ρ s1 σ H1 d s2 R1 e2 _ fun y H2 g2 w2 r2 => ?_
            have R2 := R1.gr g2 w2
            obtain ⟨dx', vf', vc', vs', k1, k2, k3, k4, k5⟩ := id w2
            have npp : ω.pg ≠ ω.pp := fun z => by
              rw [z, k3] at k1
              cases k1
            have hm : ∀ {b : Addr}, ¬ MO Mb ρ σ b → b ≠ ω.pp := fun {b} n z => n (R.watM b (.inr z))
            have gs : ∀ {o : HO}, ∀ b u, ¬ MO Mb ρ σ b → H2 b = some u → upd H2 ω.pp o b = some u := fun {o} b u n e => by
              rw [upd_ne (hm n)]
              exact e
            have gg : ∀ {o : HO}, Gr (GW ω) H (upd H2 ω.pp o) := fun {o} b u n e => by
              rw [upd_ne (fun z => n (.inr z))]
              exact (g1.trans g2) b u n e
            refine ⟨ω.pp, vs', y, rfl, rfl, k3, lim_lt (by rw [k4.length]; exact Nat.le_of_lt hz), ?_⟩
            exact q _ _ (.of gg) .refl (R.gr gg ⟨dx', vf', vc', vs' ++ [y], by rw [upd_ne npp]; exact k1, k2.grow gs, upd_same, (k4.append (.cons r2 .nil)).grow gs, k5.grow gs⟩)
        · exact q.elim
      · exact q.elim
    · exact q.elim
  · exact q.elim
theorem xs_gp (T : GaT X.K ω.C) (ha : XE (GW ω) X a fa) (he : XE (GW ω) X e fe) (hb : attributeBase a "past" X.env (eval a X.env) = eval a X.env := by rfl) 
    (hbase : attributeBase (.Attribute a "past" p1) "append" X.env (eval (.Attribute a "past" p1) X.env) = eval (.Attribute a "past" p1) X.env := by rfl)
    (hfew : ((backTo cpos (starEach [e] X.env)).all (fun x => !x.1) && (backToKw cpos (keywordEach [] X.env)).all (fun x => x.1.isSome) && decide ([e].length + ([] : List Keyword).length + (if ([] : List Keyword).isEmpty then 0 else 1) < 30)) = true := by rfl)
    (hline : (apos.endLine == cpos.line) = true := by rfl) (hs : starEach [e] X.env = (false, eval e X.env) :: starEach [] X.env := by rfl) (hplain : (backTo cpos (starEach [] X.env)).any (·.1) = false := by rfl)
    (hsw : swapsWith (.Call (.Attribute (.Attribute a "past" p1) "append" apos) [e] [] cpos) none pos.line X.env = pure false := by rfl) :
    XS (GW ω) EX X (.Expr (.Call (.Attribute (.Attribute a "past" p1) "append" apos) [e] [] cpos) pos) (fGp ω fa fe) :=
  ⟨ps_expr (pe_bm PySem.F.plainAttrs_list PySem.F.slot_list_append PySem.F.type_list_append mt_append (pe_fld ha.p hb) (pa_cons he.p pa_nil hs) hbase hfew hline hs hplain) hsw, ds_gp T ha.d he.d⟩
theorem put_c {vf vc v : V} {pp : Addr} : putF "commands" v (gfs vf vc pp) = gfs vf v pp := by
  have h1 : ¬ (("first" : Str) = "commands") := by decide
  have h2 : ¬ (("past" : Str) = "commands") := by decide
  simp only [gfs, putF, if_neg h1, if_neg h2, if_true]
theorem ds_gs {K : PySem.W.Frag} (T : GaT K ω.C) (ha : DE (GW ω) ta fa) (he : DE (GW ω) te fe) : DS (GW ω) EX (sFld K ta te "commands") (fGs ω fa fe) := by
  intro Mb ρ s σ H D R q
  unfold fGs at q
  split at q
  · rename_i ds s1 e1
    split at q
    · rename_i p s2 e2
      split at q
      · rename_i hh
        have hd' : p = .h ω.pg := isH_eq hh
        subst hd'
        refine he Mb ρ s σ H _ _ R e1 _ fun y H1 g1 w1 r1 => ?_
        have R1 := R.gr g1 w1
        refine ha Mb ρ s1 σ H1 _ _ R1 e2 _ fun x H2 g2 w2 r2 => ?_
        have r1' := r1.grow (gr_mo R.watM g2)
        have hx : x = .ref ω.pg := by simpa only [Rep] using r2
        obtain ⟨dx', vf', vc', vs', k1, k2, k3, k4, k5⟩ := id w2
        have npp : ω.pp ≠ ω.pg := fun z => by
          rw [← z, k3] at k1
          cases k1
        have gs : ∀ {o : HO}, ∀ b u, ¬ MO Mb ρ σ b → H2 b = some u → upd H2 ω.pg o b = some u := fun {o} b u n e => by
          rw [upd_ne (fun z => n (R.watM b (.inl z)))]
          exact e
        have gg : ∀ {o : HO}, Gr (GW ω) H (upd H2 ω.pg o) := fun {o} b u n e => by
          rw [upd_ne (fun z => n (.inl z))]
          exact (g1.trans g2) b u n e
        refine ⟨ω.pg, ω.C, dx', _, hx, k1, T.cl, T.nC, (by show 3 < 1000; decide), ?_⟩
        rw [put_c]
        exact q _ _ (.of gg) .refl (R.gr gg ⟨dx', vf', y, vs', upd_same, k2.grow gs, by rw [upd_ne npp]; exact k3, k4.grow gs, r1'.grow gs⟩)
      · exact q.elim
    · exact q.elim
  · exact q.elim
theorem xs_gs (T : GaT X.K ω.C) (ha : XE (GW ω) X a fa) (he : XE (GW ω) X e fe) (hs : swapsWith e (some (.Attribute a "commands" p1)) pos.line X.env = pure false := by rfl) : XS (GW ω) EX X (.Assign [.Attribute a "commands" p1] e pos) (fGs ω fa fe) :=
  ⟨ps_fld ha.p he.p hs, ds_gs T ha.d he.d⟩
end
theorem da_nil {W : Wd} : DA W tNil aNil := fun Mb ρ s σ H ds s' R e Q q => by
  cases e
  exact q [] H .refl R.world .nil
/-! ### methods of the garden that raise nothing -/
structure CalM (P : Program) (w : World) (K : PySem.W.Frag) (mg : Str → Option Value) (base : Heap) (C : Addr) (k : Nat) (x : Str) (n : Nat) (m : ∀ ω : GO, List D → GS → Option (D × GS)) : Prop where
  ex : ∃ (f : Addr) (fd : FuncData) (ps : List Str), ps.length = n ∧ FnOk P w K mg base CX0 k f fd ps (spW (fun q : {ω : GO // ω.C = C} => GW q.1) n fun q => m q.1) ∧ Meth K C x f ∧ Binds K fd ps []
def fMeth {W : Wd} {ω : GO} (E : Sub W (GW ω)) (n : Nat) (m : List D → GS → Option (D × GS)) (fo : EF W.S) (fs : AF W.S) : EF W.S := fun ρ s => (fo ρ s).bind fun o => if isH ω.pg o.1 = true then (fs ρ o.2).bind fun p => if p.1.length + 1 = n then (m (.h ω.pg :: p.1) (E.get p.2)).map fun q => (q.1, E.put p.2 q.2) else none else none
section
variable {W : Wd} {ω : GO} {X : Cx} {o e : Expr} {es : List Expr} {to : TE} {ta : TA} {fo : EF W.S} {fs : AF W.S} {pos apos : Pos} {C : Addr}
theorem de_meth {n : Nat} {x : Str} {m : ∀ ω : GO, List D → GS → Option (D × GS)} (hC : ω.C = C) (h1 : (x == ("first" : Str)) = false) (h2 : (x == ("past" : Str)) = false) (h3 : (x == ("commands" : Str)) = false) (E : Sub W (GW ω)) (ho : DE W to fo) (ha : DA W ta fs) :
    DE W (tMeth C x (spW (fun q : {ω : GO // ω.C = C} => GW q.1) n fun q => m q.1) [] E0 to ta) (fMeth E n (m ω) fo fs) := by
  intro Mb ρ s σ H d s' R e Q q
  unfold fMeth at e
  obtain ⟨⟨d0, s0⟩, e0, e⟩ := Option.bind_eq_some_iff.mp e
  simp only at e
  split at e
  · rename_i hh
    obtain ⟨⟨ds, s1⟩, e1, e⟩ := Option.bind_eq_some_iff.mp e
    simp only at e
    split at e
    · rename_i hn
      obtain ⟨⟨d', s2⟩, e2, e3⟩ := Option.map_eq_some_iff.mp e
      cases e3
      have hd' : d0 = .h ω.pg := isH_eq hh
      subst hd'
      refine ho Mb ρ s σ H _ _ R e0 _ fun x0 H0 g0 w0 r0 => ?_
      have R0 := R.gr g0 w0
      obtain ⟨dx, vf, vc, vs, k1, k2, k3, k4, k5⟩ := E.rel _ _ _ w0
      have hx : x0 = .ref ω.pg := by simpa only [Rep] using r0
      refine ⟨ω.pg, dx, _, hx, by rw [← hC]; exact k1, lk_no h1 h2 h3, ?_⟩
      refine ha Mb ρ s0 σ H0 ds s1 R0 e1 _ fun us H1 g1 w1 r1 => ?_
      have R1 := R0.gr g1 w1
      rw [List.append_nil]
      exact ⟨⟨ω, hC⟩, MO Mb ρ σ, .h ω.pg :: ds, d', E.get s1, s2, hn, fun a z => R.watM a (E.at_ a z), fun a => R1.moT, E.rel _ _ _ w1, .cons (by simpa only [Rep] using r0) r1, e2, fun v H2 g2 w2 r2 => q v H2 ((g0.trans g1).trans (E.gr g2)) (E.back _ _ _ _ _ R.watM w1 g2 w2) r2⟩
    · cases e
  · cases e
theorem xe_meth {k n : Nat} {x : Str} {m : ∀ ω : GO, List D → GS → Option (D × GS)} {pl : Sem Bool} (E : Sub W (GW ω)) (T : GaT X.K C) (hC : ω.C = C) (M : CalM X.prog X.w X.K X.mg X.base C k x n m) (hr : Room k X.A) (ho : XE W X o fo) (ha : XA W X (e :: es) fs)
    (h1 : (x == ("first" : Str)) = false := by decide) (h2 : (x == ("past" : Str)) = false := by decide) (h3 : (x == ("commands" : Str)) = false := by decide)
    (hst : starEach (e :: es) X.env = (false, eval e X.env) :: starEach es X.env := by rfl) (hpl : (backTo pos (starEach es X.env)).any (·.1) = false := by rfl)
    (ht : eval (.Call (.Attribute o x apos) (e :: es) [] pos) X.env = (do
      let ov ← eval o X.env
      standAt apos.atName
      let (f, first) ← holding [ov] (getMethod ov x pl)
      callWith pos f first (backTo pos (starEach (e :: es) X.env)) (backToKw pos (keywordEach [] X.env))) := by rfl) :
    XE W X (.Call (.Attribute o x apos) (e :: es) [] pos) (fMeth E n (m ω) fo fs) := by
  obtain ⟨f, fd, ps, c1, c2, c3, c4⟩ := M.ex
  exact ⟨pe_meth ho.p T.cl c3 c2 hr c4 .nil pass0 ha.p hst hpl ht, de_meth hC h1 h2 h3 E ho.d ha.d⟩
theorem xe_meth0 {k n : Nat} {x : Str} {m : ∀ ω : GO, List D → GS → Option (D × GS)} {pl : Sem Bool} (E : Sub W (GW ω)) (T : GaT X.K C) (hC : ω.C = C) (M : CalM X.prog X.w X.K X.mg X.base C k x n m) (hr : Room k X.A) (ho : XE W X o fo)
    (h1 : (x == ("first" : Str)) = false := by decide) (h2 : (x == ("past" : Str)) = false := by decide) (h3 : (x == ("commands" : Str)) = false := by decide)
    (ht : eval (.Call (.Attribute o x apos) [] [] pos) X.env = (do
      let ov ← eval o X.env
      standAt apos.atName
      let (f, first) ← holding [ov] (getMethod ov x pl)
      callWith pos f first (backTo pos (starEach [] X.env)) (backToKw pos (keywordEach [] X.env))) := by rfl) :
    XE W X (.Call (.Attribute o x apos) [] [] pos) (fMeth E n (m ω) fo aNil) := by
  obtain ⟨f, fd, ps, c1, c2, c3, c4⟩ := M.ex
  exact ⟨pe_meth0 ho.p T.cl c3 c2 hr c4 .nil pass0 ht, de_meth hC h1 h2 h3 E ho.d da_nil⟩
end
end K7
namespace K7
open PySem L2
def fDrop {S : Type} (fe : EF S) : SF S := fun ρ s => match fe ρ s with
  | some (_, s') => .nx ρ s'
  | none => .no
section
variable {W : Wd} {EX : NX} {X : Cx} {e : Expr} {te : TE} {fe : EF W.S} {pos : Pos}
theorem ds_drop (h : DE W te fe) : DS W EX (tDrop te) (fDrop fe) := by
  intro Mb ρ s σ H D R q
  unfold fDrop at q
  split at q
  · rename_i d s' e
    exact h Mb ρ s σ H d s' R e _ fun v H1 g1 w1 _ => q σ H1 (.of g1) .refl (R.gr g1 w1)
  · exact q.elim
theorem xs_expr (h : XE W X e fe) (hs : swapsWith e none pos.line X.env = pure false := by rfl) : XS W EX X (.Expr e pos) (fDrop fe) := ⟨ps_expr h.p hs, ds_drop h.d⟩
end
/-- a method that may raise -/
structure CalY (P : Program) (w : World) (K : PySem.W.Frag) (mg : Str → Option Value) (base : Heap) (C Cn : Addr) (k : Nat) (x : Str) (n : Nat) (m : ∀ ω : GO, List D → GS → Option (Res × GS)) : Prop where
  ex : ∃ (f : Addr) (fd : FuncData) (ps : List Str), ps.length = n ∧ FnOk P w K mg base (L2.CX P w) k f fd ps (spX Cn (fun q : {ω : GO // ω.C = C} => GW q.1) n fun q => m q.1) ∧ Meth K C x f ∧ Binds K fd ps []
end K7
end
section
set_option maxRecDepth 100000
/-! K76: what the head tells of NotPossible, as one Bool. -/
namespace K7
open PySem L2 PyProof.Rows
def oexB (K : PySem.W.Frag) (C : Addr) : Bool := match K.lookup C with
  | some ⟨.type "type", _, .cls cd, sl⟩ => (match cd.mro, sl.toList with
    | .ref C' :: bm, [_, _, _, _, some (.builtin n), _] => C' == C && n == "ValueError.__new__" && !cd.hasDel && cd.hasDict && PySem.HandSPX.refsVE bm
    | _, _ => false)
  | _ => false
theorem oexB_ok {K : PySem.W.Frag} {C : Addr} (q : oexB K C = true) : ∃ nm q N bs bm sn sub ab col dd k0 k1 k2 k3 k5, K.lookup C = some (excClassObj nm q C N bs bm true sn sub ab col dd k0 k1 k2 k3 k5 "ValueError.__new__") ∧ PySem.HandSPX.refsVE bm = true := by
  unfold oexB at q
  split at q
  · rename_i dd cd sl ho
    split at q
    · rename_i C' bm k0 k1 k2 k3 n k5 hm hs
      simp only [Bool.and_eq_true, beq_iff_eq, Bool.not_eq_true'] at q
      obtain ⟨⟨⟨⟨rfl, rfl⟩, hdel⟩, hd⟩, hr⟩ := q
      obtain ⟨nm, bs, mro, ns, qn, hd, sn, sub, ab, col, del⟩ := cd
      dsimp only at hm hdel hd
      subst hm hdel hd
      have hsl : sl = #[k0, k1, k2, k3, some (.builtin "ValueError.__new__"), k5] := by
        obtain ⟨l⟩ := sl
        simp only at hs
        rw [hs]
      subst hsl
      exact ⟨nm, qn, ns, bs, bm, sn, sub, ab, col, dd, k0, k1, k2, k3, k5, ho, hr⟩
    · cases q
  · cases q
def npB (K : PySem.W.Frag) : Bool := oexB K (He.ga K "NotPossible") && (xfB K (He.ga K "NotPossible") && (decide (PySem.W.findIn K (.ref (He.ga K "NotPossible")) "why" = some none) && (decide (PySem.W.findIn K (.ref (He.ga K "NotPossible")) "__setattr__" = some (some (.builtin "object.__setattr__"))) &&
  (decide (PySem.W.typeIn K (.ref (He.ga K "NotPossible")) = some (.type "type")) && (decide (PySem.W.findIn K (.ref (He.ga K "NotPossible")) "__init__" = some (some (.ref (He.ma K (He.ga K "NotPossible") "__init__")))) && decide (PySem.W.typeIn K (.ref (He.ma K (He.ga K "NotPossible") "__init__")) = some (.type "function")))))))
theorem npB_ok {K : PySem.W.Frag} {mg : Str → Option Value} (q : npB K = true) (gC : mg "NotPossible" = some (.ref (He.ga K "NotPossible"))) (kC : PySem.W.keepIn K (.ref (He.ga K "NotPossible")) = true) (te : PySem.W.exmOne K (.ref (He.ga K "NotPossible")) (.ref (He.ga K "NotPossible")) = some true) :
    NpT K mg (He.ga K "NotPossible") (He.ma K (He.ga K "NotPossible") "__init__") := by
  obtain ⟨h1, q⟩ := He.ba q
  obtain ⟨h2, q⟩ := He.ba q
  obtain ⟨h3, q⟩ := He.ba q
  obtain ⟨h4, q⟩ := He.ba q
  obtain ⟨h5, q⟩ := He.ba q
  obtain ⟨h6, h7⟩ := He.ba q
  have xf := xfB_ok h2
  exact ⟨gC, ⟨oexB_ok h1, of_decide_eq_true h4, xf.exC, of_decide_eq_true h5, kC⟩, xf, of_decide_eq_true h3, te, of_decide_eq_true h6, of_decide_eq_true h7⟩
end K7
/-! ### a Hook that looks at addresses that are told, all of them: the run need not search what the names reach (which wants most of its memory) -/
namespace K7
open PySem L2
section
variable {as : List Addr} {fa : List He.Fa} {fn : List He.DefD} {ex : PySem.W.Frag → Bool}
structure SaysY (fa : List He.Fa) (fn : List He.DefD) (ex : PySem.W.Frag → Bool) (w : World) (K : PySem.W.Frag) : Prop where
  t : He.SaysT fa fn [] w K
  more : ex K = true
def obsY (as : List Addr) (fa : List He.Fa) (fn : List He.DefD) (ex : PySem.W.Frag → Bool) (g : Addr → Option Obj) : He.AlX := (He.obsT fa fn [] (He.frT g as), ex (He.frT g as))
def valY (fn : List He.DefD) (w : World) : He.AlX := (He.valT fn [] w, true)
theorem saysY_of {w : World} {h : Heap} (e : obsY as fa fn ex h.get? = valY fn w) : SaysY fa fn ex w (He.frT h.get? as) := ⟨congrArg (fun z : He.AlX => z.1) e, congrArg (fun z : He.AlX => z.2) e⟩
def hookY (as : List Addr) (fa : List He.Fa) (fn : List He.DefD) (ex : PySem.W.Frag → Bool) : PySem.W.Hook where
  α := He.AlX
  obs := fun s => obsY as fa fn ex s.heap.get?
  val := fun w => valY fn w
  says := fun w h => ∃ K : PySem.W.Frag, K.In h ∧ SaysY fa fn ex w K
  of := fun _ _ e => ⟨_, He.frT_in, saysY_of e⟩
  keeps := fun _ _ _ ⟨K, hK, c⟩ k => ⟨K, PySem.W.Frag.In.keeps hK k, c⟩
theorem obsY_eq {g : Addr → Option Obj} {s : Shared} (h : ∀ a, g a = s.heap.get? a) : obsY as fa fn ex g = (hookY as fa fn ex).obs s := by
  have e : g = s.heap.get? := funext h
  rw [e] <;> rfl
end
end K7
end
section
set_option maxRecDepth 100000
namespace K76
open PySem L2
def top (i : Nat) : Stmt := PySem.Challenge.pw_rootfirst_k76_whole_commands_of_gardens.main.body.getD i (.Pass ⟨0, 0, 0, 0⟩)
abbrev s_NotPossible_init : Stmt := inClass (top 5) 0
abbrev s_is_number_trees : Stmt := top 10
abbrev s_is_arities : Stmt := top 12
abbrev s_is_tree : Stmt := top 13
abbrev s_size_of : Stmt := top 14
abbrev s_part_at : Stmt := top 15
abbrev s_put_at : Stmt := top 16
abbrev s_is_row : Stmt := top 19
abbrev s_is_automaton : Stmt := top 20
abbrev s_next_state : Stmt := top 21
abbrev s_state_of : Stmt := top 22
abbrev s_rows_of : Stmt := top 23
abbrev s_reachable : Stmt := top 24
abbrev s_check_automaton : Stmt := top 26
abbrev s_is_state : Stmt := top 27
abbrev s_check_depth : Stmt := top 30
abbrev s_come : Stmt := top 31
abbrev s_seen : Stmt := top 32
abbrev s_good_states : Stmt := top 33
abbrev s_handed : Stmt := top 34
abbrev s_along : Stmt := top 35
abbrev s_fails : Stmt := top 36
abbrev s_let_in : Stmt := top 37
abbrev s_is_number_garden : Stmt := top 44
abbrev s_is_short_place : Stmt := top 46
abbrev s_is_step : Stmt := top 47
abbrev s_is_swap : Stmt := top 48
abbrev s_is_command : Stmt := top 49
abbrev s_replaced : Stmt := top 50
abbrev s_entry_with : Stmt := top 51
abbrev s_swapped : Stmt := top 52
abbrev s_behind : Stmt := top 53
abbrev s_states_in : Stmt := top 54
abbrev s_Garden_init : Stmt := inClass (top 55) 0
abbrev s_Garden_act : Stmt := inClass (top 55) 1
abbrev s_Garden_automaton : Stmt := inClass (top 55) 3
abbrev s_Garden_trees : Stmt := inClass (top 55) 4
abbrev s_Garden_journal : Stmt := inClass (top 55) 5
abbrev s_Garden_states : Stmt := inClass (top 55) 6
abbrev s_Garden_good : Stmt := inClass (top 55) 7
abbrev s_Garden_let_in : Stmt := inClass (top 55) 8
abbrev s_L_stream : Stmt := top 57
abbrev s_L_next : Stmt := top 58
abbrev s_L_is_integer : Stmt := top 59
abbrev s_L_equal : Stmt := top 60
abbrev s_L_arities : Stmt := top 61
abbrev s_L_automaton : Stmt := top 62
abbrev s_L_tree : Stmt := top 63
abbrev s_L_next_state : Stmt := top 64
abbrev s_L_state : Stmt := top 65
abbrev s_L_symbols : Stmt := top 66
abbrev s_L_size : Stmt := top 67
abbrev s_L_places : Stmt := top 68
abbrev s_L_part : Stmt := top 69
abbrev s_L_put : Stmt := top 70
abbrev s_L_reachable : Stmt := top 71
abbrev s_L_seen : Stmt := top 72
abbrev s_L_handed : Stmt := top 73
abbrev s_L_sets : Stmt := top 74
abbrev s_L_sets_along : Stmt := top 75
abbrev s_L_let_in : Stmt := top 76
abbrev s_L_places_of : Stmt := top 77
abbrev s_L_command : Stmt := top 78
abbrev s_L_replaced : Stmt := top 79
abbrev s_L_swapped : Stmt := top 80
abbrev s_L_why_not : Stmt := top 81
abbrev s_L_entry : Stmt := top 82
abbrev s_L_behind : Stmt := top 83
abbrev s_L_states : Stmt := top 84
abbrev s_L_told : Stmt := top 85
abbrev s_law : Stmt := top 86
end K76
end
section
set_option maxRecDepth 100000
set_option maxHeartbeats 0
namespace K76
open PySem PySem.Spec PyProof.Rows L2
def d_NotPossible_init : He.DefD := ⟨("NotPossible", some "__init__"), "__init__", "NotPossible.__init__", defArgs s_NotPossible_init, defBody s_NotPossible_init, defScope s_NotPossible_init, [], []⟩
def d_is_number_trees : He.DefD := ⟨("is_number_trees", none), "is_number", "is_number", defArgs s_is_number_trees, defBody s_is_number_trees, defScope s_is_number_trees, [], []⟩
def d_is_arities : He.DefD := ⟨("is_arities", none), "is_arities", "is_arities", defArgs s_is_arities, defBody s_is_arities, defScope s_is_arities, [], []⟩
def d_is_tree : He.DefD := ⟨("is_tree", none), "is_tree", "is_tree", defArgs s_is_tree, defBody s_is_tree, defScope s_is_tree, [], []⟩
def d_size_of : He.DefD := ⟨("size_of", none), "size_of", "size_of", defArgs s_size_of, defBody s_size_of, defScope s_size_of, [], []⟩
def d_part_at : He.DefD := ⟨("part_at", none), "part_at", "part_at", defArgs s_part_at, defBody s_part_at, defScope s_part_at, [], []⟩
def d_put_at : He.DefD := ⟨("put_at", none), "put_at", "put_at", defArgs s_put_at, defBody s_put_at, defScope s_put_at, [], []⟩
def d_is_row : He.DefD := ⟨("is_row", none), "is_row", "is_row", defArgs s_is_row, defBody s_is_row, defScope s_is_row, [], []⟩
def d_is_automaton : He.DefD := ⟨("is_automaton", none), "is_automaton", "is_automaton", defArgs s_is_automaton, defBody s_is_automaton, defScope s_is_automaton, [], []⟩
def d_next_state : He.DefD := ⟨("next_state", none), "next_state", "next_state", defArgs s_next_state, defBody s_next_state, defScope s_next_state, [], []⟩
def d_state_of : He.DefD := ⟨("state_of", none), "state_of", "state_of", defArgs s_state_of, defBody s_state_of, defScope s_state_of, [], []⟩
def d_rows_of : He.DefD := ⟨("rows_of", none), "rows_of", "rows_of", defArgs s_rows_of, defBody s_rows_of, defScope s_rows_of, [], []⟩
def d_reachable : He.DefD := ⟨("reachable", none), "reachable", "reachable", defArgs s_reachable, defBody s_reachable, defScope s_reachable, [], []⟩
def d_check_automaton : He.DefD := ⟨("check_automaton", none), "check_automaton", "check_automaton", defArgs s_check_automaton, defBody s_check_automaton, defScope s_check_automaton, [], []⟩
def d_is_state : He.DefD := ⟨("is_state", none), "is_state", "is_state", defArgs s_is_state, defBody s_is_state, defScope s_is_state, [], []⟩
def d_check_depth : He.DefD := ⟨("check_depth", none), "check_depth", "check_depth", defArgs s_check_depth, defBody s_check_depth, defScope s_check_depth, [], []⟩
def d_come : He.DefD := ⟨("come", none), "come", "come", defArgs s_come, defBody s_come, defScope s_come, [], []⟩
def d_seen : He.DefD := ⟨("seen", none), "seen", "seen", defArgs s_seen, defBody s_seen, defScope s_seen, [], []⟩
def d_good_states : He.DefD := ⟨("good_states", none), "good_states", "good_states", defArgs s_good_states, defBody s_good_states, defScope s_good_states, [], []⟩
def d_handed : He.DefD := ⟨("handed", none), "handed", "handed", defArgs s_handed, defBody s_handed, defScope s_handed, [], []⟩
def d_along : He.DefD := ⟨("along", none), "along", "along", defArgs s_along, defBody s_along, defScope s_along, [], []⟩
def d_fails : He.DefD := ⟨("fails", none), "fails", "fails", defArgs s_fails, defBody s_fails, defScope s_fails, [], []⟩
def d_let_in : He.DefD := ⟨("let_in_closure", none), "let_in", "let_in", defArgs s_let_in, defBody s_let_in, defScope s_let_in, [], []⟩
def d_is_number_garden : He.DefD := ⟨("is_number_garden", none), "is_number", "is_number", defArgs s_is_number_garden, defBody s_is_number_garden, defScope s_is_number_garden, [], []⟩
def d_is_short_place : He.DefD := ⟨("is_short_place", none), "is_short_place", "is_short_place", defArgs s_is_short_place, defBody s_is_short_place, defScope s_is_short_place, [], []⟩
def d_is_step : He.DefD := ⟨("is_step", none), "is_step", "is_step", defArgs s_is_step, defBody s_is_step, defScope s_is_step, [], []⟩
def d_is_swap : He.DefD := ⟨("is_swap", none), "is_swap", "is_swap", defArgs s_is_swap, defBody s_is_swap, defScope s_is_swap, [], []⟩
def d_is_command : He.DefD := ⟨("is_command", none), "is_command", "is_command", defArgs s_is_command, defBody s_is_command, defScope s_is_command, [], []⟩
def d_replaced : He.DefD := ⟨("replaced", none), "replaced", "replaced", defArgs s_replaced, defBody s_replaced, defScope s_replaced, [], []⟩
def d_entry_with : He.DefD := ⟨("entry_with", none), "entry_with", "entry_with", defArgs s_entry_with, defBody s_entry_with, defScope s_entry_with, [], []⟩
def d_swapped : He.DefD := ⟨("swapped", none), "swapped", "swapped", defArgs s_swapped, defBody s_swapped, defScope s_swapped, [], []⟩
def d_behind : He.DefD := ⟨("behind", none), "behind", "behind", defArgs s_behind, defBody s_behind, defScope s_behind, [], []⟩
def d_states_in : He.DefD := ⟨("states_in", none), "states_in", "states_in", defArgs s_states_in, defBody s_states_in, defScope s_states_in, [], []⟩
def d_Garden_init : He.DefD := ⟨("Garden", some "__init__"), "__init__", "Garden.__init__", defArgs s_Garden_init, defBody s_Garden_init, defScope s_Garden_init, [], []⟩
def d_Garden_act : He.DefD := ⟨("Garden", some "act"), "act", "Garden.act", defArgs s_Garden_act, defBody s_Garden_act, defScope s_Garden_act, [], []⟩
def d_Garden_automaton : He.DefD := ⟨("Garden", some "automaton"), "automaton", "Garden.automaton", defArgs s_Garden_automaton, defBody s_Garden_automaton, defScope s_Garden_automaton, [], []⟩
def d_Garden_trees : He.DefD := ⟨("Garden", some "trees"), "trees", "Garden.trees", defArgs s_Garden_trees, defBody s_Garden_trees, defScope s_Garden_trees, [], []⟩
def d_Garden_journal : He.DefD := ⟨("Garden", some "journal"), "journal", "Garden.journal", defArgs s_Garden_journal, defBody s_Garden_journal, defScope s_Garden_journal, [], []⟩
def d_Garden_states : He.DefD := ⟨("Garden", some "states"), "states", "Garden.states", defArgs s_Garden_states, defBody s_Garden_states, defScope s_Garden_states, [], []⟩
def d_Garden_good : He.DefD := ⟨("Garden", some "good"), "good", "Garden.good", defArgs s_Garden_good, defBody s_Garden_good, defScope s_Garden_good, [], []⟩
def d_Garden_let_in : He.DefD := ⟨("Garden", some "let_in"), "let_in", "Garden.let_in", defArgs s_Garden_let_in, defBody s_Garden_let_in, defScope s_Garden_let_in, [], []⟩
def d_L_stream : He.DefD := ⟨("_law_stream", none), "_law_stream", "_law_stream", defArgs s_L_stream, defBody s_L_stream, defScope s_L_stream, [], []⟩
def d_L_next : He.DefD := ⟨("_law_next", none), "_law_next", "_law_next", defArgs s_L_next, defBody s_L_next, defScope s_L_next, [], []⟩
def d_L_is_integer : He.DefD := ⟨("_law_is_integer", none), "_law_is_integer", "_law_is_integer", defArgs s_L_is_integer, defBody s_L_is_integer, defScope s_L_is_integer, [], []⟩
def d_L_equal : He.DefD := ⟨("_law_equal", none), "_law_equal", "_law_equal", defArgs s_L_equal, defBody s_L_equal, defScope s_L_equal, [], []⟩
def d_L_arities : He.DefD := ⟨("_law_arities", none), "_law_arities", "_law_arities", defArgs s_L_arities, defBody s_L_arities, defScope s_L_arities, [], []⟩
def d_L_automaton : He.DefD := ⟨("_law_automaton", none), "_law_automaton", "_law_automaton", defArgs s_L_automaton, defBody s_L_automaton, defScope s_L_automaton, [], []⟩
def d_L_tree : He.DefD := ⟨("_law_tree", none), "_law_tree", "_law_tree", defArgs s_L_tree, defBody s_L_tree, defScope s_L_tree, [], []⟩
def d_L_next_state : He.DefD := ⟨("_law_next_state", none), "_law_next_state", "_law_next_state", defArgs s_L_next_state, defBody s_L_next_state, defScope s_L_next_state, [], []⟩
def d_L_state : He.DefD := ⟨("_law_state", none), "_law_state", "_law_state", defArgs s_L_state, defBody s_L_state, defScope s_L_state, [], []⟩
def d_L_symbols : He.DefD := ⟨("_law_symbols", none), "_law_symbols", "_law_symbols", defArgs s_L_symbols, defBody s_L_symbols, defScope s_L_symbols, [], []⟩
def d_L_size : He.DefD := ⟨("_law_size", none), "_law_size", "_law_size", defArgs s_L_size, defBody s_L_size, defScope s_L_size, [], []⟩
def d_L_places : He.DefD := ⟨("_law_places", none), "_law_places", "_law_places", defArgs s_L_places, defBody s_L_places, defScope s_L_places, [], []⟩
def d_L_part : He.DefD := ⟨("_law_part", none), "_law_part", "_law_part", defArgs s_L_part, defBody s_L_part, defScope s_L_part, [], []⟩
def d_L_put : He.DefD := ⟨("_law_put", none), "_law_put", "_law_put", defArgs s_L_put, defBody s_L_put, defScope s_L_put, [], []⟩
def d_L_reachable : He.DefD := ⟨("_law_reachable", none), "_law_reachable", "_law_reachable", defArgs s_L_reachable, defBody s_L_reachable, defScope s_L_reachable, [], []⟩
def d_L_seen : He.DefD := ⟨("_law_seen", none), "_law_seen", "_law_seen", defArgs s_L_seen, defBody s_L_seen, defScope s_L_seen, [], []⟩
def d_L_handed : He.DefD := ⟨("_law_handed", none), "_law_handed", "_law_handed", defArgs s_L_handed, defBody s_L_handed, defScope s_L_handed, [], []⟩
def d_L_sets : He.DefD := ⟨("_law_sets", none), "_law_sets", "_law_sets", defArgs s_L_sets, defBody s_L_sets, defScope s_L_sets, [], []⟩
def d_L_sets_along : He.DefD := ⟨("_law_sets_along", none), "_law_sets_along", "_law_sets_along", defArgs s_L_sets_along, defBody s_L_sets_along, defScope s_L_sets_along, [], []⟩
def d_L_let_in : He.DefD := ⟨("_law_let_in", none), "_law_let_in", "_law_let_in", defArgs s_L_let_in, defBody s_L_let_in, defScope s_L_let_in, [], []⟩
def d_L_places_of : He.DefD := ⟨("_law_places_of", none), "_law_places_of", "_law_places_of", defArgs s_L_places_of, defBody s_L_places_of, defScope s_L_places_of, [], []⟩
def d_L_command : He.DefD := ⟨("_law_command", none), "_law_command", "_law_command", defArgs s_L_command, defBody s_L_command, defScope s_L_command, [], []⟩
def d_L_replaced : He.DefD := ⟨("_law_replaced", none), "_law_replaced", "_law_replaced", defArgs s_L_replaced, defBody s_L_replaced, defScope s_L_replaced, [], []⟩
def d_L_swapped : He.DefD := ⟨("_law_swapped", none), "_law_swapped", "_law_swapped", defArgs s_L_swapped, defBody s_L_swapped, defScope s_L_swapped, [], []⟩
def d_L_why_not : He.DefD := ⟨("_law_why_not", none), "_law_why_not", "_law_why_not", defArgs s_L_why_not, defBody s_L_why_not, defScope s_L_why_not, [], []⟩
def d_L_entry : He.DefD := ⟨("_law_entry", none), "_law_entry", "_law_entry", defArgs s_L_entry, defBody s_L_entry, defScope s_L_entry, [], []⟩
def d_L_behind : He.DefD := ⟨("_law_behind", none), "_law_behind", "_law_behind", defArgs s_L_behind, defBody s_L_behind, defScope s_L_behind, [], []⟩
def d_L_states : He.DefD := ⟨("_law_states", none), "_law_states", "_law_states", defArgs s_L_states, defBody s_L_states, defScope s_L_states, [], []⟩
def d_L_told : He.DefD := ⟨("_law_told", none), "_law_told", "_law_told", defArgs s_L_told, defBody s_L_told, defScope s_L_told, [], []⟩
def d_law : He.DefD := ⟨("law", none), "law", "law", defArgs s_law, defBody s_law, defScope s_law, [], []⟩
def fn0 : List He.DefD := [d_NotPossible_init, d_is_number_trees, d_is_arities, d_is_tree, d_size_of, d_part_at, d_put_at, d_is_row, d_is_automaton, d_next_state, d_state_of, d_rows_of, d_reachable, d_check_automaton, d_is_state, d_check_depth, d_come, d_seen, d_good_states, d_handed]
def fn1 : List He.DefD := [d_along, d_fails, d_let_in, d_is_number_garden, d_is_short_place, d_is_step, d_is_swap, d_is_command, d_replaced, d_entry_with, d_swapped, d_behind, d_states_in, d_Garden_init, d_Garden_act, d_Garden_automaton, d_Garden_trees, d_Garden_journal, d_Garden_states, d_Garden_good]
def fn2 : List He.DefD := [d_Garden_let_in, d_L_stream, d_L_next, d_L_is_integer, d_L_equal, d_L_arities, d_L_automaton, d_L_tree, d_L_next_state, d_L_state, d_L_symbols, d_L_size, d_L_places, d_L_part, d_L_put, d_L_reachable, d_L_seen, d_L_handed, d_L_sets, d_L_sets_along]
def fn3 : List He.DefD := [d_L_let_in, d_L_places_of, d_L_command, d_L_replaced, d_L_swapped, d_L_why_not, d_L_entry, d_L_behind, d_L_states, d_L_told, d_law]
def fn : List He.DefD := fn0 ++ fn1 ++ fn2 ++ fn3
def fa0 : List He.Fa := [.glo "is_number_trees", .glo "is_arities", .glo "is_tree", .glo "size_of", .glo "part_at", .glo "put_at", .glo "is_row", .glo "is_automaton", .glo "next_state", .glo "state_of", .glo "rows_of", .glo "reachable", .glo "check_automaton", .glo "is_state", .glo "check_depth", .glo "come", .glo "seen", .glo "good_states", .glo "handed", .glo "along"]
def fa1 : List He.Fa := [.glo "fails", .glo "let_in_closure", .glo "is_number_garden", .glo "is_short_place", .glo "is_step", .glo "is_swap", .glo "is_command", .glo "replaced", .glo "entry_with", .glo "swapped", .glo "behind", .glo "states_in", .glo "_law_stream", .glo "_law_next", .glo "_law_is_integer", .glo "_law_equal", .glo "_law_arities", .glo "_law_automaton", .glo "_law_tree", .glo "_law_next_state"]
def fa2 : List He.Fa := [.glo "_law_state", .glo "_law_symbols", .glo "_law_size", .glo "_law_places", .glo "_law_part", .glo "_law_put", .glo "_law_reachable", .glo "_law_seen", .glo "_law_handed", .glo "_law_sets", .glo "_law_sets_along", .glo "_law_let_in", .glo "_law_places_of", .glo "_law_command", .glo "_law_replaced", .glo "_law_swapped", .glo "_law_why_not", .glo "_law_entry", .glo "_law_behind", .glo "_law_states"]
def fa3 : List He.Fa := [.glo "_law_told", .glo "law", .int "MOST_SYMBOLS" 4, .int "MOST_ARITY" 2, .int "MOST_NODES_trees" 15, .int "MOST_STATES" 4, .int "MOST_DEPTH" 12, .int "MOST_TREES" 12, .int "MOST_NODES_garden" 15, .int "MOST_PLACE" 14, .int "MOST_COMMANDS" 20, .free "len", .free "isinstance", .free "int", .free "bool", .free "tuple", .free "list", .free "str", .free "all", .free "any"]
def fa4 : List He.Fa := [.free "sum", .free "max", .free "abs", .free "sorted", .free "range", .free "enumerate", .free "zip", .free "ValueError", .glo "Garden", .cls "Garden", .mkr "Garden", .noat "Garden" "first", .noat "Garden" "past", .noat "Garden" "commands", .meth "Garden" "act", .meth "Garden" "automaton", .meth "Garden" "trees", .meth "Garden" "journal", .meth "Garden" "states", .meth "Garden" "good"]
def fa5 : List He.Fa := [.meth "Garden" "let_in", .glo "NotPossible", .keep "NotPossible", .exm "NotPossible" "NotPossible" true]
def fa : List He.Fa := fa0 ++ fa1 ++ fa2 ++ fa3 ++ fa4 ++ fa5
def loose0 : List Str := ["_wall", "TreeError", "BadValue", "TooLarge", "NotPossible", "MOST_SYMBOLS", "MOST_ARITY", "MOST_NODES_trees", "is_number", "is_number_trees", "is_arities", "is_tree", "size_of", "part_at", "put_at", "MOST_STATES", "is_row", "is_automaton", "next_state", "state_of", "rows_of", "reachable", "check_automaton", "is_state", "MOST_DEPTH", "check_depth", "come", "seen", "good_states", "handed"]
def loose1 : List Str := ["along", "fails", "let_in", "let_in_closure", "MOST_TREES", "MOST_NODES_garden", "MOST_PLACE", "MOST_COMMANDS", "is_number_garden", "is_short_place", "is_step", "is_swap", "is_command", "replaced", "entry_with", "swapped", "behind", "states_in", "Garden", "_law_stream", "_law_next", "_law_is_integer", "_law_equal", "_law_arities", "_law_automaton", "_law_tree", "_law_next_state", "_law_state", "_law_symbols", "_law_size"]
def loose2 : List Str := ["_law_places", "_law_part", "_law_put", "_law_reachable", "_law_seen", "_law_handed", "_law_sets", "_law_sets_along", "_law_let_in", "_law_places_of", "_law_command", "_law_replaced", "_law_swapped", "_law_why_not", "_law_entry", "_law_behind", "_law_states", "_law_told"]
def loose : List Str := loose0 ++ loose1 ++ loose2
abbrev R : PySem.W.OpenRow := PySem.W.OpenLaw.row PySem.Challenge.rw_rootfirst_k76_whole_commands_of_gardens
def as : List Addr := List.range 640
abbrev hk : PySem.W.Hook := K7.hookY as fa fn K7.npB
def ob (s : PySem.W.SharedT) : He.AlX := K7.obsY as fa fn K7.npB (HandSHeadRun.getT s)
theorem ob_eq (s : PySem.W.SharedT) : ob s = hk.obs s.abs := K7.obsY_eq (HandSHeadRun.getT_eq s)
theorem run (w : World) : HandSHeadRun.RunEq R (PySem.W.view R.prog [86]) hk ob 4000 loose w := by
  intro os
  kernel_rfl
end K76
end
section
set_option maxRecDepth 100000
namespace K7
open PySem L2
def F_is_number_trees : SF Unit :=
  (fRet (fAndV (fUn (dIsi "int") (fNw 0)) (fAndV (fNotV (fUn (dIsi "bool") (fNw 0))) (fChain dLe dLe (fNw 1) (fNw 0) (fNw 2)))))
def m_is_number_trees : List D → Option D := runP 3 F_is_number_trees
def F_is_arities : SF Unit :=
  (fSeq (fIf (fOrT (fNotT (fTru (fUn (dIsi "tuple") (fNw 0)))) (fNotT (fT (fChain dLe dLe (fC (.int 1)) (fUn dLen (fNw 0)) (fC (.int 4)))))) (fRet (fC (.bl false))) fNext)
  (fRet (fUn dAll (fLc (sSeq (fNw 0)) (gN 1) fYes (fCall 3 m_is_number_trees (aCons (fN 1) (aCons (fC (.int 0)) (aCons (fC (.int 2)) aNil)))) [1]))))
def m_is_arities : List D → Option D := runP 2 F_is_arities
def F_is_tree : SF Unit :=
  (fSeq (fOwn 2 (aCons (fN 1) aNil))
  (fSeq (fAsg (fC (.int 0)) (gN 3))
  (fSeq (fWhile (fT (fBin dGt (fUn dLen (fNw 2)) (fC (.int 0)))) (fSeq (fPop 2 (gN 4))
  (fSeq (fAsg (fBin dAdd (fNw 3) (fC (.int 1))) (gN 3))
  (fSeq (fIf (fOrT (fT (fBin dGt (fNw 3) (fC (.int 15)))) (fOrT (fNotT (fTru (fUn (dIsi "tuple") (fNw 4)))) (fT (fBin dEq (fUn dLen (fNw 4)) (fC (.int 0)))))) (fRet (fC (.bl false))) fNext)
  (fSeq (fIf (fOrT (fNotT (fTru (fCall 3 m_is_number_trees (aCons (fBin dItem (fNw 4) (fC (.int 0))) (aCons (fC (.int 0)) (aCons (fBin dSub (fUn dLen (fNw 0)) (fC (.int 1))) aNil)))))) (fT (fBin dNe (fUn dLen (fNw 4)) (fBin dAdd (fC (.int 1)) (fBin dItem (fNw 0) (fBin dItem (fNw 4) (fC (.int 0)))))))) (fRet (fC (.bl false))) fNext)
  (fExt 2 (fSl (fNw 4) (oSome (fC (.int 1))) oNo)))))) 20)
  (fRet (fC (.bl true))))))
def m_is_tree : List D → Option D := runP 5 F_is_tree
def F_size_of (rec : List D → Option D) : SF Unit :=
  (fRet (fBin dAdd (fC (.int 1)) (fUn dSum (fLc (sSeq (fSl (fNw 0) (oSome (fC (.int 1))) oNo)) (gN 1) fYes (fCall 1 rec (aCons (fN 1) aNil)) [1]))))
def m_size_of : Nat → List D → Option D
  | 0 => fun _ => none
  | j + 1 => runP 2 (F_size_of (m_size_of j))
def F_part_at : SF Unit :=
  (fSeq (fAsg (fN 0) (gN 2))
  (fSeq (fFor (sSeq (fN 1)) (gN 3) (fSeq (fIf (fT (fBin dLt (fUn dLen (fNw 2)) (fBin dAdd (fNw 3) (fC (.int 2))))) (fRet (fC .non)) fNext)
  (fAsg (fBin dItem (fNw 2) (fBin dAdd (fNw 3) (fC (.int 1)))) (gN 2))))
  (fRet (fN 2))))
def m_part_at : List D → Option D := runP 4 F_part_at
def F_put_at (rec : List D → Option D) : SF Unit :=
  (fSeq (fIf (fT (fBin dEq (fUn dLen (fNw 1)) (fC (.int 0)))) (fRet (fN 2)) fNext)
  (fSeq (fAsg (fBin dAdd (fBin dItem (fNw 1) (fC (.int 0))) (fC (.int 1))) (gN 3))
  (fRet (fBin dAdd (fBin dAdd (fSl (fNw 0) oNo (oSome (fNw 3))) (fTup (aCons (fCall 3 rec (aCons (fBin dItem (fNw 0) (fNw 3)) (aCons (fSl (fNw 1) (oSome (fC (.int 1))) oNo) (aCons (fN 2) aNil)))) aNil))) (fSl (fNw 0) (oSome (fBin dAdd (fNw 3) (fC (.int 1)))) oNo)))))
def m_put_at : Nat → List D → Option D
  | 0 => fun _ => none
  | j + 1 => runP 4 (F_put_at (m_put_at j))
def F_is_row : SF Unit :=
  (fSeq (fAsg (fLst (aCons (fN 0) aNil)) (gN 3))
  (fSeq (fFor (sRg1 (fNw 1)) (gN 4) (fSeq (fIf (fNotT (fTru (fUn dAll (fLc (sSeq (fNw 3)) (gN 5) fYes (fAndV (fUn (dIsi "tuple") (fNw 5)) (fBin dEq (fUn dLen (fNw 5)) (fNw 2))) [5])))) (fRet (fC (.bl false))) fNext)
  (fAsg (fLc2 (sSeq (fNw 3)) (gN 5) fYes (sSeq (fN 5)) (gN 6) fYes (fN 6) [5, 6] [6]) (gN 3))))
  (fRet (fUn dAll (fLc (sSeq (fNw 3)) (gN 6) fYes (fCall 3 m_is_number_trees (aCons (fN 6) (aCons (fC (.int 0)) (aCons (fBin dSub (fNw 2) (fC (.int 1))) aNil)))) [6])))))
def m_is_row : List D → Option D := runP 7 F_is_row
def F_is_automaton : SF Unit :=
  (fSeq (fIf (fOrT (fNotT (fTru (fUn (dIsi "tuple") (fNw 0)))) (fOrT (fT (fBin dNe (fUn dLen (fNw 0)) (fC (.int 3)))) (fNotT (fTru (fCall 1 m_is_arities (aCons (fBin dItem (fNw 0) (fC (.int 0))) aNil)))))) (fRet (fC (.bl false))) fNext)
  (fSeq (fAsg (fN 0) (gT 3 (gsCons 1 (gsCons 2 (gsCons 3 gsNil)))))
  (fSeq (fIf (fOrT (fNotT (fTru (fUn (dIsi "tuple") (fNw 2)))) (fNotT (fT (fChain dLe dLe (fC (.int 1)) (fUn dLen (fNw 2)) (fC (.int 4)))))) (fRet (fC (.bl false))) fNext)
  (fSeq (fIf (fNotT (fTru (fUn dAll (fLc (sSeq (fNw 2)) (gN 4) fYes (fUn (dIsi "bool") (fNw 4)) [4])))) (fRet (fC (.bl false))) fNext)
  (fSeq (fIf (fOrT (fNotT (fTru (fUn (dIsi "tuple") (fNw 3)))) (fT (fBin dNe (fUn dLen (fNw 3)) (fUn dLen (fNw 1))))) (fRet (fC (.bl false))) fNext)
  (fRet (fUn dAll (fLc (sZip (fN 3) (fN 1)) (gT 2 (gsCons 5 (gsCons 6 gsNil))) fYes (fCall 3 m_is_row (aCons (fN 5) (aCons (fN 6) (aCons (fUn dLen (fNw 2)) aNil)))) [5, 6]))))))))
def m_is_automaton : List D → Option D := runP 7 F_is_automaton
def F_next_state : SF Unit :=
  (fSeq (fAsg (fBin dItem (fBin dItem (fNw 0) (fC (.int 2))) (fNw 1)) (gN 3))
  (fSeq (fFor (sSeq (fN 2)) (gN 4) (fAsg (fBin dItem (fNw 3) (fNw 4)) (gN 3)))
  (fRet (fN 3))))
def m_next_state : List D → Option D := runP 5 F_next_state
def F_state_of (rec : List D → Option D) : SF Unit :=
  (fRet (fCall 3 m_next_state (aCons (fN 0) (aCons (fBin dItem (fNw 1) (fC (.int 0))) (aCons (fLc (sSeq (fSl (fNw 1) (oSome (fC (.int 1))) oNo)) (gN 2) fYes (fCall 2 rec (aCons (fN 0) (aCons (fN 2) aNil))) [2]) aNil)))))
def m_state_of : Nat → List D → Option D
  | 0 => fun _ => none
  | j + 1 => runP 3 (F_state_of (m_state_of j))
def F_rows_of : SF Unit :=
  (fSeq (fAsg (fLst (aCons (fTup aNil) aNil)) (gN 2))
  (fSeq (fFor (sRg1 (fNw 1)) (gN 3) (fAsg (fLc2 (sSeq (fNw 2)) (gN 4) fYes (sSeq (fN 0)) (gN 5) fYes (fBin dAdd (fNw 4) (fTup (aCons (fN 5) aNil))) [4, 5] [5]) (gN 2)))
  (fRet (fN 2))))
def m_rows_of : List D → Option D := runP 6 F_rows_of
def F_reachable : SF Unit :=
  (fSeq (fOwnD 1)
  (fSeq (fAsg (fUn dNeg (fC (.int 1))) (gN 2))
  (fSeq (fWhile (fT (fBin dGt (fUn dLen (fNw 1)) (fNw 2))) (fSeq (fAsg (fUn dLen (fNw 1)) (gN 2))
  (fFor (sEnum (fBin dItem (fNw 0) (fC (.int 0)))) (gT 2 (gsCons 3 (gsCons 4 gsNil))) (fFor (sSeq (fCall 2 m_rows_of (aCons (fUn dSorted (fNw 1)) (aCons (fN 4) aNil)))) (gN 5) (fPutD 1 (fCall 3 m_next_state (aCons (fN 0) (aCons (fN 3) (aCons (fN 5) aNil)))))))) 8)
  (fRet (fUn dTuple (fUn dSorted (fNw 1)))))))
def m_reachable : List D → Option D := runP 6 F_reachable
def F_is_state : SF Unit :=
  (fRet (fAndV (fUn (dIsi "int") (fNw 1)) (fAndV (fNotV (fUn (dIsi "bool") (fNw 1))) (fChain dLe dLt (fC (.int 0)) (fNw 1) (fUn dLen (fBin dItem (fNw 0) (fC (.int 1))))))))
def m_is_state : List D → Option D := runP 2 F_is_state
def F_come : SF Unit :=
  (fSeq (fIf (fNotT (fTru (fNw 2))) (fOwn 3 (aCons (fTup aNil) aNil)) (fIf (fT (fBin dEq (fUn dLen (fNw 2)) (fC (.int 1)))) (fAsg (fLc (sSeq (fBin dItem (fNw 2) (fC (.int 0)))) (gN 4) fYes (fTup (aCons (fN 4) aNil)) [4]) (gN 3)) (fSeq (fOwn 3 aNil)
  (fFor (sSeq (fBin dItem (fNw 2) (fC (.int 0)))) (gN 4) (fExt 3 (fLc (sSeq (fBin dItem (fNw 2) (fC (.int 1)))) (gN 5) fYes (fTup (aCons (fN 4) (aCons (fN 5) aNil))) [5]))))))
  (fRet (fUn dTuple (fUn dSorted (fDc (sSeq (fNw 3)) (gN 6) fYes (fCall 3 m_next_state (aCons (fN 0) (aCons (fN 1) (aCons (fN 6) aNil)))) [6])))))
def m_come : List D → Option D := runP 7 F_come
def F_seen (rec : List D → Option D) : SF Unit :=
  (fSeq (fIf (fT (fBin dEq (fNw 2) (fC (.int 0)))) (fRet (fUn dTuple (fCall 1 m_reachable (aCons (fN 0) aNil)))) fNext)
  (fRet (fCall 3 m_come (aCons (fN 0) (aCons (fBin dItem (fNw 1) (fC (.int 0))) (aCons (fLc (sSeq (fSl (fNw 1) (oSome (fC (.int 1))) oNo)) (gN 3) fYes (fCall 3 rec (aCons (fN 0) (aCons (fN 3) (aCons (fBin dSub (fNw 2) (fC (.int 1))) aNil)))) [3]) aNil))))))
def m_seen : Nat → List D → Option D
  | 0 => fun _ => none
  | j + 1 => runP 4 (F_seen (m_seen j))
def F_good_states : SF Unit :=
  (fRet (fUn dTuple (fLc (sSeq (fCall 1 m_reachable (aCons (fN 0) aNil))) (gN 1) (fTru (fBin dItem (fBin dItem (fNw 0) (fC (.int 1))) (fNw 1))) (fN 1) [1])))
def m_good_states : List D → Option D := runP 2 F_good_states
def F_handed : SF Unit :=
  (fSeq (fAsg (fCall 1 m_reachable (aCons (fN 0) aNil)) (gN 4))
  (fSeq (fIf (fT (fBin dEq (fUn dLen (fNw 3)) (fC (.int 1)))) (fRet (fLst (aCons (fUn dTuple (fLc (sSeq (fNw 4)) (gN 5) (fT (fBin dIn (fCall 3 m_next_state (aCons (fN 0) (aCons (fN 1) (aCons (fTup (aCons (fN 5) aNil)) aNil)))) (fNw 2))) (fN 5) [5])) aNil))) fNext)
  (fSeq (fOwn 6 aNil)
  (fSeq (fOwn 7 aNil)
  (fSeq (fFor (sSeq (fN 4)) (gN 8) (fSeq (fIf (fTru (fUn dAny (fLc (sSeq (fBin dItem (fNw 3) (fC (.int 1)))) (gN 9) fYes (fBin dIn (fCall 3 m_next_state (aCons (fN 0) (aCons (fN 1) (aCons (fTup (aCons (fN 8) (aCons (fN 9) aNil))) aNil)))) (fNw 2)) [9]))) (fApp 6 (fN 8)) fNext)
  (fIf (fTru (fUn dAny (fLc (sSeq (fBin dItem (fNw 3) (fC (.int 0)))) (gN 9) fYes (fBin dIn (fCall 3 m_next_state (aCons (fN 0) (aCons (fN 1) (aCons (fTup (aCons (fN 9) (aCons (fN 8) aNil))) aNil)))) (fNw 2)) [9]))) (fApp 7 (fN 8)) fNext)))
  (fRet (fLst (aCons (fUn dTuple (fNw 6)) (aCons (fUn dTuple (fNw 7)) aNil)))))))))
def m_handed : List D → Option D := runP 10 F_handed
def F_fails : SF Unit :=
  (fRet (fNotV (fUn dAny (fLc (sSeq (fCall 3 (m_seen 20) (aCons (fN 0) (aCons (fN 2) (aCons (fN 1) aNil))))) (gN 4) fYes (fBin dIn (fNw 4) (fNw 3)) [4]))))
def m_fails : List D → Option D := runP 5 F_fails
def F_along : SF Unit :=
  (fSeq (fOwn 3 aNil)
  (fSeq (fOwn 4 (aCons (fTup (aCons (fTup aNil) (aCons (fN 2) (aCons (fCall 1 m_good_states (aCons (fN 0) aNil)) aNil)))) aNil))
  (fSeq (fWhile (fTru (fNw 4)) (fSeq (fPop 4 (gT 3 (gsCons 5 (gsCons 6 (gsCons 7 gsNil)))))
  (fSeq (fApp 3 (fTup (aCons (fN 5) (aCons (fN 6) (aCons (fN 7) aNil)))))
  (fIf (fAndT (fTru (fSl (fNw 6) (oSome (fC (.int 1))) oNo)) (fNotT (fTru (fCall 4 m_fails (aCons (fN 0) (aCons (fN 1) (aCons (fN 6) (aCons (fN 7) aNil)))))))) (fSeq (fAsg (fCall 4 m_handed (aCons (fN 0) (aCons (fBin dItem (fNw 6) (fC (.int 0))) (aCons (fN 7) (aCons (fLc (sSeq (fSl (fNw 6) (oSome (fC (.int 1))) oNo)) (gN 10) fYes (fCall 3 (m_seen 20) (aCons (fN 0) (aCons (fN 10) (aCons (fBin dSub (fNw 1) (fC (.int 1))) aNil)))) [10]) aNil))))) (gN 8))
  (fFor (sSeq (fRev (fLRg (fUn dLen (fNw 8))))) (gN 9) (fApp 4 (fTup (aCons (fBin dAdd (fNw 5) (fTup (aCons (fN 9) aNil))) (aCons (fBin dItem (fNw 6) (fBin dAdd (fNw 9) (fC (.int 1)))) (aCons (fBin dItem (fNw 8) (fNw 9)) aNil))))))) fNext))) 20)
  (fRetO 3))))
def m_along : List D → Option D := runP 11 F_along
def F_let_in : SF Unit :=
  (fRet (fNotV (fUn dAny (fLc (sSeq (fCall 3 m_along (aCons (fN 0) (aCons (fN 1) (aCons (fN 2) aNil))))) (gT 3 (gsCons 3 (gsCons 4 (gsCons 5 gsNil)))) fYes (fCall 4 m_fails (aCons (fN 0) (aCons (fN 1) (aCons (fN 4) (aCons (fN 5) aNil))))) [3, 4, 5]))))
def m_let_in : List D → Option D := runP 6 F_let_in
def F_is_number_garden : SF Unit :=
  (fRet (fAndV (fUn (dIsi "int") (fNw 0)) (fAndV (fNotV (fUn (dIsi "bool") (fNw 0))) (fChain dLe dLt (fC (.int 0)) (fNw 0) (fNw 1)))))
def m_is_number_garden : List D → Option D := runP 2 F_is_number_garden
def F_is_short_place : SF Unit :=
  (fRet (fAndV (fUn (dIsi "tuple") (fNw 0)) (fAndV (fBin dLe (fUn dLen (fNw 0)) (fC (.int 14))) (fUn dAll (fLc (sSeq (fNw 0)) (gN 1) fYes (fCall 2 m_is_number_garden (aCons (fN 1) (aCons (fC (.int 2)) aNil))) [1])))))
def m_is_short_place : List D → Option D := runP 2 F_is_short_place
def F_is_step : SF Unit :=
  (fSeq (fIf (fOrT (fT (fBin dNe (fUn dLen (fNw 0)) (fC (.int 4)))) (fOrT (fNotT (fTru (fCall 2 m_is_number_garden (aCons (fBin dItem (fNw 0) (fC (.int 1))) (aCons (fUn dLen (fBin dItem (fNw 1) (fC (.int 0)))) aNil))))) (fNotT (fTru (fUn (dIsi "tuple") (fBin dItem (fNw 0) (fC (.int 2)))))))) (fRet (fC (.bl false))) fNext)
  (fSeq (fIf (fOrT (fT (fBin dNe (fUn dLen (fBin dItem (fNw 0) (fC (.int 2)))) (fBin dItem (fBin dItem (fNw 1) (fC (.int 0))) (fBin dItem (fNw 0) (fC (.int 1)))))) (fNotT (fTru (fUn dAll (fLc (sSeq (fBin dItem (fNw 0) (fC (.int 2)))) (gN 2) fYes (fCall 2 m_is_state (aCons (fN 1) (aCons (fN 2) aNil))) [2]))))) (fRet (fC (.bl false))) fNext)
  (fRet (fCall 2 m_is_state (aCons (fN 1) (aCons (fBin dItem (fNw 0) (fC (.int 3))) aNil))))))
def m_is_step : List D → Option D := runP 3 F_is_step
def F_is_swap : SF Unit :=
  (fSeq (fIf (fOrT (fT (fBin dNe (fUn dLen (fNw 0)) (fC (.int 5)))) (fOrT (fNotT (fTru (fCall 2 m_is_number_garden (aCons (fBin dItem (fNw 0) (fC (.int 1))) (aCons (fC (.int 12)) aNil))))) (fNotT (fTru (fCall 2 m_is_number_garden (aCons (fBin dItem (fNw 0) (fC (.int 3))) (aCons (fC (.int 12)) aNil))))))) (fRet (fC (.bl false))) fNext)
  (fRet (fAndV (fCall 1 m_is_short_place (aCons (fBin dItem (fNw 0) (fC (.int 2))) aNil)) (fCall 1 m_is_short_place (aCons (fBin dItem (fNw 0) (fC (.int 4))) aNil)))))
def m_is_swap : List D → Option D := runP 1 F_is_swap
def F_is_command : SF Unit :=
  (fSeq (fIf (fOrT (fNotT (fTru (fUn (dIsi "tuple") (fNw 0)))) (fOrT (fNotT (fTru (fNw 0))) (fNotT (fTru (fUn (dIsi "str") (fBin dItem (fNw 0) (fC (.int 0)))))))) (fRet (fC (.bl false))) fNext)
  (fSeq (fIf (fT (fBin dEq (fBin dItem (fNw 0) (fC (.int 0))) (fC (.str "step")))) (fRet (fCall 2 m_is_step (aCons (fN 0) (aCons (fN 1) aNil)))) fNext)
  (fSeq (fIf (fT (fBin dEq (fBin dItem (fNw 0) (fC (.int 0))) (fC (.str "good")))) (fRet (fAndV (fBin dEq (fUn dLen (fNw 0)) (fC (.int 3))) (fAndV (fCall 2 m_is_state (aCons (fN 1) (aCons (fBin dItem (fNw 0) (fC (.int 1))) aNil))) (fUn (dIsi "bool") (fBin dItem (fNw 0) (fC (.int 2))))))) fNext)
  (fSeq (fIf (fT (fBin dEq (fBin dItem (fNw 0) (fC (.int 0))) (fC (.str "put")))) (fRet (fAndV (fBin dEq (fUn dLen (fNw 0)) (fC (.int 2))) (fCall 2 m_is_tree (aCons (fBin dItem (fNw 1) (fC (.int 0))) (aCons (fBin dItem (fNw 0) (fC (.int 1))) aNil))))) fNext)
  (fSeq (fIf (fT (fBin dEq (fBin dItem (fNw 0) (fC (.int 0))) (fC (.str "swap")))) (fRet (fCall 1 m_is_swap (aCons (fN 0) aNil))) fNext)
  (fRet (fAndV (fBin dEq (fBin dItem (fNw 0) (fC (.int 0))) (fC (.str "take"))) (fAndV (fBin dEq (fUn dLen (fNw 0)) (fC (.int 2))) (fCall 2 m_is_number_garden (aCons (fBin dItem (fNw 0) (fC (.int 1))) (aCons (fC (.int 12)) aNil)))))))))))
def m_is_command : List D → Option D := runP 2 F_is_command
def F_replaced : SF Unit :=
  (fRet (fBin dAdd (fBin dAdd (fSl (fNw 0) oNo (oSome (fNw 1))) (fTup (aCons (fN 2) aNil))) (fSl (fNw 0) (oSome (fBin dAdd (fNw 1) (fC (.int 1)))) oNo)))
def m_replaced : List D → Option D := runP 3 F_replaced
def F_entry_with : SF Unit :=
  (fSeq (fIf (fNotT (fTru (fNw 1))) (fRet (fN 2)) fNext)
  (fSeq (fIf (fT (fBin dEq (fUn dLen (fNw 1)) (fC (.int 1)))) (fRet (fCall 3 m_replaced (aCons (fN 0) (aCons (fBin dItem (fNw 1) (fC (.int 0))) (aCons (fN 2) aNil))))) fNext)
  (fRet (fCall 3 m_replaced (aCons (fN 0) (aCons (fBin dItem (fNw 1) (fC (.int 0))) (aCons (fCall 3 m_replaced (aCons (fBin dItem (fNw 0) (fBin dItem (fNw 1) (fC (.int 0)))) (aCons (fBin dItem (fNw 1) (fC (.int 1))) (aCons (fN 2) aNil)))) aNil)))))))
def m_entry_with : List D → Option D := runP 3 F_entry_with
def F_states_in : SF Unit :=
  (fSeq (fAsg (fN 0) (gT 2 (gsCons 1 (gsCons 2 gsNil))))
  (fRet (fUn dTuple (fLc (sSeq (fNw 2)) (gN 3) fYes (fCall 2 (m_state_of 20) (aCons (fN 1) (aCons (fN 3) aNil))) [3]))))
def m_states_in : List D → Option D := runP 4 F_states_in
def F_check_automaton : SF Unit :=
  (fIf (fNotT (fTru (fCall 1 m_is_automaton (aCons (fN 0) aNil)))) (fun _ _ => .no) fNext)
def m_check_automaton : List D → Option D := runP 2 F_check_automaton
def F_check_depth : SF Unit :=
  (fIf (fOrT (fNotT (fTru (fUn (dIsi "int") (fNw 0)))) (fOrT (fTru (fUn (dIsi "bool") (fNw 0))) (fNotT (fT (fChain dLe dLe (fC (.int 1)) (fNw 0) (fNw 1)))))) (fun _ _ => .no) fNext)
def m_check_depth : List D → Option D := runP 2 F_check_depth
def F_L_stream : SF Unit :=
  (fRet (fLst (aCons (fUn dList (fNw 0)) (aCons (fC (.int 0)) (aCons (fC (.int 0)) aNil)))))
def m_L_stream : List D → Option D := runP 1 F_L_stream
def F_L_is_integer : SF Unit :=
  (fRet (fAndV (fUn (dIsi "int") (fNw 0)) (fNotV (fUn (dIsi "bool") (fNw 0)))))
def m_L_is_integer : List D → Option D := runP 1 F_L_is_integer
def F_L_equal (rec : List D → Option D) : SF Unit :=
  (fSeq (fIf (fT (fBin dIsN (fNw 1) (fC .non))) (fRet (fBin dIsN (fNw 0) (fC .non))) fNext)
  (fSeq (fIf (fTru (fUn (dIsi "bool") (fNw 1))) (fRet (fAndV (fUn (dIsi "bool") (fNw 0)) (fBin dEq (fNw 0) (fNw 1)))) fNext)
  (fSeq (fIf (fTru (fUn (dIsi "int") (fNw 1))) (fRet (fAndV (fCall 1 m_L_is_integer (aCons (fN 0) aNil)) (fBin dEq (fNw 0) (fNw 1)))) fNext)
  (fSeq (fIf (fTru (fUn (dIsi "str") (fNw 1))) (fRet (fAndV (fUn (dIsi "str") (fNw 0)) (fBin dEq (fNw 0) (fNw 1)))) fNext)
  (fSeq (fIf (fAndT (fTru (fUn (dIsi "tuple") (fNw 1))) (fNotT (fTru (fUn (dIsi "tuple") (fNw 0))))) (fRet (fC (.bl false))) fNext)
  (fSeq (fIf (fAndT (fTru (fUn (dIsi "list") (fNw 1))) (fNotT (fTru (fUn (dIsi "list") (fNw 0))))) (fRet (fC (.bl false))) fNext)
  (fSeq (fIf (fT (fBin dNe (fUn dLen (fNw 0)) (fUn dLen (fNw 1)))) (fRet (fC (.bl false))) fNext)
  (fRet (fUn dAll (fLc (sRg1 (fUn dLen (fNw 1))) (gN 2) fYes (fCall 2 rec (aCons (fBin dItem (fNw 0) (fNw 2)) (aCons (fBin dItem (fNw 1) (fNw 2)) aNil))) [2]))))))))))
def m_L_equal : Nat → List D → Option D
  | 0 => fun _ => none
  | j + 1 => runP 3 (F_L_equal (m_L_equal j))
def F_L_next_state : SF Unit :=
  (fSeq (fAsg (fBin dItem (fBin dItem (fNw 0) (fC (.int 2))) (fNw 1)) (gN 3))
  (fSeq (fFor (sSeq (fN 2)) (gN 4) (fAsg (fBin dItem (fNw 3) (fNw 4)) (gN 3)))
  (fRet (fN 3))))
def m_L_next_state : List D → Option D := runP 5 F_L_next_state
def F_L_state (rec : List D → Option D) : SF Unit :=
  (fRet (fCall 3 m_L_next_state (aCons (fN 0) (aCons (fBin dItem (fNw 1) (fC (.int 0))) (aCons (fLc (sSeq (fSl (fNw 1) (oSome (fC (.int 1))) oNo)) (gN 2) fYes (fCall 2 rec (aCons (fN 0) (aCons (fN 2) aNil))) [2]) aNil)))))
def m_L_state : Nat → List D → Option D
  | 0 => fun _ => none
  | j + 1 => runP 3 (F_L_state (m_L_state j))
def F_L_symbols (rec : List D → Option D) : SF Unit :=
  (fSeq (fAsg (fTup (aCons (fBin dItem (fNw 0) (fC (.int 0))) aNil)) (gN 1))
  (fSeq (fFor (sSeq (fSl (fNw 0) (oSome (fC (.int 1))) oNo)) (gN 2) (fAsg (fBin dAdd (fNw 1) (fCall 1 rec (aCons (fN 2) aNil))) (gN 1)))
  (fRet (fN 1))))
def m_L_symbols : Nat → List D → Option D
  | 0 => fun _ => none
  | j + 1 => runP 3 (F_L_symbols (m_L_symbols j))
def F_L_size : SF Unit :=
  (fRet (fUn dLen (fCall 1 (m_L_symbols 40) (aCons (fN 0) aNil))))
def m_L_size : List D → Option D := runP 1 F_L_size
def F_L_places (rec : List D → Option D) : SF Unit :=
  (fSeq (fAsg (fLst (aCons (fTup aNil) aNil)) (gN 1))
  (fSeq (fFor (sRg2 (fC (.int 1)) (fUn dLen (fNw 0))) (gN 2) (fAsg (fBin dAdd (fNw 1) (fLc (sSeq (fCall 1 rec (aCons (fBin dItem (fNw 0) (fNw 2)) aNil))) (gN 3) fYes (fBin dAdd (fTup (aCons (fBin dSub (fNw 2) (fC (.int 1))) aNil)) (fNw 3)) [3])) (gN 1)))
  (fRet (fN 1))))
def m_L_places : Nat → List D → Option D
  | 0 => fun _ => none
  | j + 1 => runP 4 (F_L_places (m_L_places j))
def F_L_part : SF Unit :=
  (fSeq (fFor (sSeq (fN 1)) (gN 2) (fIf (fT (fBin dIsNot (fNw 0) (fC .non))) (fIf (fT (fBin dLt (fBin dAdd (fNw 2) (fC (.int 1))) (fUn dLen (fNw 0)))) (fAsg (fBin dItem (fNw 0) (fBin dAdd (fNw 2) (fC (.int 1)))) (gN 0)) (fAsg (fC .non) (gN 0))) fNext))
  (fRet (fN 0)))
def m_L_part : List D → Option D := runP 3 F_L_part
def F_L_put (rec : List D → Option D) : SF Unit :=
  (fSeq (fIf (fT (fBin dEq (fNw 1) (fTup aNil))) (fRet (fN 2)) fNext)
  (fSeq (fAsg (fBin dAdd (fBin dItem (fNw 1) (fC (.int 0))) (fC (.int 1))) (gN 3))
  (fRet (fBin dAdd (fBin dAdd (fSl (fNw 0) oNo (oSome (fNw 3))) (fTup (aCons (fCall 3 rec (aCons (fBin dItem (fNw 0) (fNw 3)) (aCons (fSl (fNw 1) (oSome (fC (.int 1))) oNo) (aCons (fN 2) aNil)))) aNil))) (fSl (fNw 0) (oSome (fBin dAdd (fNw 3) (fC (.int 1)))) oNo)))))
def m_L_put : Nat → List D → Option D
  | 0 => fun _ => none
  | j + 1 => runP 4 (F_L_put (m_L_put j))
def F_L_reachable : SF Unit :=
  (fSeq (fOwn 1 aNil)
  (fSeq (fFor (sRg1 (fC (.int 5))) (gN 2) (fFor (sRg1 (fUn dLen (fBin dItem (fNw 0) (fC (.int 0))))) (gN 3) (fSeq (fAsg (fBin dItem (fBin dItem (fNw 0) (fC (.int 0))) (fNw 3)) (gN 4))
  (fSeq (fAsg (fLst (aCons (fTup aNil) aNil)) (gN 5))
  (fSeq (fFor (sRg1 (fNw 4)) (gN 6) (fSeq (fAsg (fLst aNil) (gN 8))
  (fSeq (fFor (sSeq (fN 5)) (gN 7) (fAsg (fBin dAdd (fNw 8) (fLc (sSeq (fNw 1)) (gN 9) fYes (fBin dAdd (fNw 7) (fTup (aCons (fN 9) aNil))) [9])) (gN 8)))
  (fAsg (fN 8) (gN 5)))))
  (fFor (sSeq (fN 5)) (gN 7) (fSeq (fAsg (fCall 3 m_L_next_state (aCons (fN 0) (aCons (fN 3) (aCons (fN 7) aNil)))) (gN 9))
  (fIf (fT (fBin dNotIn (fNw 9) (fNw 1))) (fApp 1 (fN 9)) fNext))))))))
  (fRet (fUn dTuple (fUn dSorted (fNw 1))))))
def m_L_reachable : List D → Option D := runP 10 F_L_reachable
def F_L_seen (rec : List D → Option D) : SF Unit :=
  (fSeq (fIf (fT (fBin dEq (fNw 3) (fC (.int 0)))) (fRet (fN 1)) fNext)
  (fSeq (fAsg (fLst (aCons (fTup aNil) aNil)) (gN 4))
  (fSeq (fFor (sSeq (fSl (fNw 2) (oSome (fC (.int 1))) oNo)) (gN 5) (fSeq (fAsg (fCall 4 rec (aCons (fN 0) (aCons (fN 1) (aCons (fN 5) (aCons (fBin dSub (fNw 3) (fC (.int 1))) aNil))))) (gN 6))
  (fSeq (fAsg (fLst aNil) (gN 7))
  (fSeq (fFor (sSeq (fN 4)) (gN 8) (fAsg (fBin dAdd (fNw 7) (fLc (sSeq (fNw 6)) (gN 9) fYes (fBin dAdd (fNw 8) (fTup (aCons (fN 9) aNil))) [9])) (gN 7)))
  (fAsg (fN 7) (gN 4))))))
  (fSeq (fOwn 10 aNil)
  (fSeq (fFor (sSeq (fN 4)) (gN 8) (fSeq (fAsg (fCall 3 m_L_next_state (aCons (fN 0) (aCons (fBin dItem (fNw 2) (fC (.int 0))) (aCons (fN 8) aNil)))) (gN 9))
  (fIf (fT (fBin dNotIn (fNw 9) (fNw 10))) (fApp 10 (fN 9)) fNext)))
  (fRet (fUn dTuple (fUn dSorted (fNw 10)))))))))
def m_L_seen : Nat → List D → Option D
  | 0 => fun _ => none
  | j + 1 => runP 11 (F_L_seen (m_L_seen j))
def F_L_handed : SF Unit :=
  (fSeq (fOwn 6 aNil)
  (fSeq (fFor (sSeq (fN 1)) (gN 7) (fSeq (fAsg (fC (.bl false)) (gN 8))
  (fSeq (fIf (fT (fBin dEq (fUn dLen (fNw 3)) (fC (.int 2)))) (fAsg (fBin dIn (fCall 3 m_L_next_state (aCons (fN 0) (aCons (fBin dItem (fNw 3) (fC (.int 0))) (aCons (fTup (aCons (fN 7) aNil)) aNil)))) (fNw 4)) (gN 8)) (fFor (sSeq (fCall 4 (m_L_seen 20) (aCons (fN 0) (aCons (fN 1) (aCons (fBin dItem (fNw 3) (fBin dSub (fC (.int 2)) (fNw 5))) (aCons (fBin dSub (fNw 2) (fC (.int 1))) aNil)))))) (gN 9) (fSeq (fAsg (fBin dItem (fLst (aCons (fTup (aCons (fN 7) (aCons (fN 9) aNil))) (aCons (fTup (aCons (fN 9) (aCons (fN 7) aNil))) aNil))) (fNw 5)) (gN 10))
  (fAsg (fOrV (fN 8) (fBin dIn (fCall 3 m_L_next_state (aCons (fN 0) (aCons (fBin dItem (fNw 3) (fC (.int 0))) (aCons (fN 10) aNil)))) (fNw 4))) (gN 8)))))
  (fIf (fTru (fNw 8)) (fApp 6 (fN 7)) fNext))))
  (fRet (fUn dTuple (fNw 6)))))
def m_L_handed : List D → Option D := runP 11 F_L_handed
def F_L_sets (rec : List D → Option D) : SF Unit :=
  (fSeq (fAsg (fLst (aCons (fTup (aCons (fTup aNil) (aCons (fN 4) aNil))) aNil)) (gN 5))
  (fSeq (fIf (fTru (fUn dAny (fLc (sSeq (fCall 4 (m_L_seen 20) (aCons (fN 0) (aCons (fN 1) (aCons (fN 3) (aCons (fN 2) aNil)))))) (gN 8) fYes (fBin dIn (fNw 8) (fNw 4)) [8]))) (fFor (sRg1 (fBin dSub (fUn dLen (fNw 3)) (fC (.int 1)))) (gN 6) (fSeq (fAsg (fCall 5 rec (aCons (fN 0) (aCons (fN 1) (aCons (fN 2) (aCons (fBin dItem (fNw 3) (fBin dAdd (fNw 6) (fC (.int 1)))) (aCons (fCall 6 m_L_handed (aCons (fN 0) (aCons (fN 1) (aCons (fN 2) (aCons (fN 3) (aCons (fN 4) (aCons (fN 6) aNil))))))) aNil)))))) (gN 7))
  (fAsg (fBin dAdd (fNw 5) (fLc (sSeq (fNw 7)) (gT 2 (gsCons 9 (gsCons 10 gsNil))) fYes (fTup (aCons (fBin dAdd (fTup (aCons (fN 6) aNil)) (fNw 9)) (aCons (fN 10) aNil))) [9, 10])) (gN 5)))) fNext)
  (fRet (fN 5))))
def m_L_sets : Nat → List D → Option D
  | 0 => fun _ => none
  | j + 1 => runP 11 (F_L_sets (m_L_sets j))
def F_L_sets_along : SF Unit :=
  (fSeq (fAsg (fCall 1 m_L_reachable (aCons (fN 0) aNil)) (gN 3))
  (fSeq (fAsg (fUn dTuple (fLc (sSeq (fNw 3)) (gN 5) (fTru (fBin dItem (fBin dItem (fNw 0) (fC (.int 1))) (fNw 5))) (fN 5) [5])) (gN 4))
  (fRet (fUn dTuple (fCall 5 (m_L_sets 20) (aCons (fN 0) (aCons (fN 3) (aCons (fN 1) (aCons (fN 2) (aCons (fN 4) aNil))))))))))
def m_L_sets_along : List D → Option D := runP 6 F_L_sets_along
def F_L_let_in : SF Unit :=
  (fSeq (fAsg (fCall 1 m_L_reachable (aCons (fN 0) aNil)) (gN 3))
  (fSeq (fFor (sSeq (fCall 3 m_L_sets_along (aCons (fN 0) (aCons (fN 1) (aCons (fN 2) aNil))))) (gT 2 (gsCons 4 (gsCons 5 gsNil))) (fIf (fNotT (fTru (fUn dAny (fLc (sSeq (fCall 4 (m_L_seen 20) (aCons (fN 0) (aCons (fN 3) (aCons (fCall 2 m_L_part (aCons (fN 2) (aCons (fN 4) aNil))) (aCons (fN 1) aNil)))))) (gN 6) fYes (fBin dIn (fNw 6) (fNw 5)) [6])))) (fRet (fC (.bl false))) fNext))
  (fRet (fC (.bl true)))))
def m_L_let_in : List D → Option D := runP 7 F_L_let_in
def F_L_replaced : SF Unit :=
  (fRet (fBin dAdd (fBin dAdd (fSl (fNw 0) oNo (oSome (fNw 1))) (fTup (aCons (fN 2) aNil))) (fSl (fNw 0) (oSome (fBin dAdd (fNw 1) (fC (.int 1)))) oNo)))
def m_L_replaced : List D → Option D := runP 3 F_L_replaced
def F_L_swapped : SF Unit :=
  (fSeq (fAsg (fN 1) (gT 5 (gsCons 2 (gsCons 3 (gsCons 4 (gsCons 5 (gsCons 6 gsNil)))))))
  (fSeq (fAsg (fCall 2 m_L_part (aCons (fBin dItem (fNw 0) (fNw 3)) (aCons (fN 4) aNil))) (gN 7))
  (fSeq (fAsg (fCall 3 m_L_replaced (aCons (fN 0) (aCons (fN 3) (aCons (fCall 3 (m_L_put 20) (aCons (fBin dItem (fNw 0) (fNw 3)) (aCons (fN 4) (aCons (fCall 2 m_L_part (aCons (fBin dItem (fNw 0) (fNw 5)) (aCons (fN 6) aNil))) aNil)))) aNil)))) (gN 8))
  (fRet (fCall 3 m_L_replaced (aCons (fN 8) (aCons (fN 5) (aCons (fCall 3 (m_L_put 20) (aCons (fBin dItem (fNw 8) (fNw 5)) (aCons (fN 6) (aCons (fN 7) aNil)))) aNil))))))))
def m_L_swapped : List D → Option D := runP 9 F_L_swapped
def F_L_why_not : SF Unit :=
  (fSeq (fAsg (fUn dLen (fNw 0)) (gN 2))
  (fSeq (fIf (fT (fBin dEq (fBin dItem (fNw 1) (fC (.int 0))) (fC (.str "put")))) (fRet (fBin dItem (fLst (aCons (fC (.str "")) (aCons (fC (.str "many")) aNil))) (fUn dToInt (fBin dGe (fNw 2) (fC (.int 12)))))) fNext)
  (fSeq (fIf (fT (fBin dEq (fBin dItem (fNw 1) (fC (.int 0))) (fC (.str "take")))) (fRet (fBin dItem (fLst (aCons (fC (.str "")) (aCons (fC (.str "missing")) aNil))) (fUn dToInt (fBin dGe (fBin dItem (fNw 1) (fC (.int 1))) (fNw 2))))) fNext)
  (fSeq (fIf (fT (fBin dNe (fBin dItem (fNw 1) (fC (.int 0))) (fC (.str "swap")))) (fRet (fC (.str ""))) fNext)
  (fSeq (fAsg (fN 1) (gT 5 (gsCons 3 (gsCons 4 (gsCons 5 (gsCons 6 (gsCons 7 gsNil)))))))
  (fSeq (fIf (fOrT (fT (fBin dGe (fNw 4) (fNw 2))) (fT (fBin dGe (fNw 6) (fNw 2)))) (fRet (fC (.str "missing"))) fNext)
  (fSeq (fIf (fOrT (fT (fBin dIsN (fCall 2 m_L_part (aCons (fBin dItem (fNw 0) (fNw 4)) (aCons (fN 5) aNil))) (fC .non))) (fT (fBin dIsN (fCall 2 m_L_part (aCons (fBin dItem (fNw 0) (fNw 6)) (aCons (fN 7) aNil))) (fC .non)))) (fRet (fC (.str "place"))) fNext)
  (fSeq (fIf (fAndT (fT (fBin dEq (fNw 4) (fNw 6))) (fOrT (fT (fBin dEq (fSl (fNw 5) oNo (oSome (fUn dLen (fNw 7)))) (fNw 7))) (fT (fBin dEq (fSl (fNw 7) oNo (oSome (fUn dLen (fNw 5)))) (fNw 5))))) (fRet (fC (.str "overlap"))) fNext)
  (fSeq (fAsg (fCall 2 m_L_swapped (aCons (fN 0) (aCons (fN 1) aNil))) (gN 8))
  (fRet (fBin dItem (fLst (aCons (fC (.str "")) (aCons (fC (.str "great")) aNil))) (fUn dToInt (fBin dGt (fBin dMax2 (fCall 1 m_L_size (aCons (fBin dItem (fNw 8) (fNw 4)) aNil)) (fCall 1 m_L_size (aCons (fBin dItem (fNw 8) (fNw 6)) aNil))) (fC (.int 15)))))))))))))))
def m_L_why_not : List D → Option D := runP 9 F_L_why_not
def F_L_entry : SF Unit :=
  (fSeq (fIf (fT (fBin dEq (fNw 1) (fTup aNil))) (fRet (fN 2)) fNext)
  (fSeq (fIf (fT (fBin dEq (fUn dLen (fNw 1)) (fC (.int 1)))) (fRet (fCall 3 m_L_replaced (aCons (fN 0) (aCons (fBin dItem (fNw 1) (fC (.int 0))) (aCons (fN 2) aNil))))) fNext)
  (fRet (fCall 3 m_L_replaced (aCons (fN 0) (aCons (fBin dItem (fNw 1) (fC (.int 0))) (aCons (fCall 3 m_L_replaced (aCons (fBin dItem (fNw 0) (fBin dItem (fNw 1) (fC (.int 0)))) (aCons (fBin dItem (fNw 1) (fC (.int 1))) (aCons (fN 2) aNil)))) aNil)))))))
def m_L_entry : List D → Option D := runP 3 F_L_entry
def F_L_behind : SF Unit :=
  (fSeq (fAsg (fN 0) (gT 3 (gsCons 3 (gsCons 4 (gsCons 5 gsNil)))))
  (fSeq (fIf (fT (fBin dEq (fBin dItem (fNw 2) (fC (.int 0))) (fC (.str "put")))) (fRet (fTup (aCons (fN 0) (aCons (fBin dAdd (fNw 1) (fTup (aCons (fBin dItem (fNw 2) (fC (.int 1))) aNil))) aNil)))) fNext)
  (fSeq (fIf (fT (fBin dEq (fBin dItem (fNw 2) (fC (.int 0))) (fC (.str "take")))) (fRet (fTup (aCons (fN 0) (aCons (fBin dAdd (fSl (fNw 1) oNo (oSome (fBin dItem (fNw 2) (fC (.int 1))))) (fSl (fNw 1) (oSome (fBin dAdd (fBin dItem (fNw 2) (fC (.int 1))) (fC (.int 1)))) oNo)) aNil)))) fNext)
  (fSeq (fIf (fT (fBin dEq (fBin dItem (fNw 2) (fC (.int 0))) (fC (.str "swap")))) (fRet (fTup (aCons (fN 0) (aCons (fCall 2 m_L_swapped (aCons (fN 1) (aCons (fN 2) aNil))) aNil)))) fNext)
  (fSeq (fIf (fT (fBin dEq (fBin dItem (fNw 2) (fC (.int 0))) (fC (.str "good")))) (fRet (fTup (aCons (fTup (aCons (fN 3) (aCons (fCall 3 m_L_replaced (aCons (fN 4) (aCons (fBin dItem (fNw 2) (fC (.int 1))) (aCons (fBin dItem (fNw 2) (fC (.int 2))) aNil)))) (aCons (fN 5) aNil)))) (aCons (fN 1) aNil)))) fNext)
  (fSeq (fAsg (fCall 3 m_L_entry (aCons (fBin dItem (fNw 5) (fBin dItem (fNw 2) (fC (.int 1)))) (aCons (fBin dItem (fNw 2) (fC (.int 2))) (aCons (fBin dItem (fNw 2) (fC (.int 3))) aNil)))) (gN 6))
  (fRet (fTup (aCons (fTup (aCons (fN 3) (aCons (fN 4) (aCons (fCall 3 m_L_replaced (aCons (fN 5) (aCons (fBin dItem (fNw 2) (fC (.int 1))) (aCons (fN 6) aNil)))) aNil)))) (aCons (fN 1) aNil))))))))))
def m_L_behind : List D → Option D := runP 7 F_L_behind
def F_L_states : SF Unit :=
  (fRet (fUn dTuple (fLc (sSeq (fNw 1)) (gN 2) fYes (fCall 2 (m_L_state 20) (aCons (fN 0) (aCons (fN 2) aNil))) [2])))
def m_L_states : List D → Option D := runP 3 F_L_states
end K7
end
section
set_option maxRecDepth 100000
namespace K7
open PySem L2
def F_L_next (ω : SO) : SF (Int × Nat) :=
  (fSeq (fIf (fT (fBin dEq (fSg ω (fNw 0) (fC (.int 1))) (fC (.int 0)))) (fSeq (fAsg (fSg ω (fNw 0) (fC (.int 2))) (gN 2))
  (fSeq (fAsg (fBin dAdd (fC (.int 7)) (fNw 2)) (gN 3))
  (fSeq (fIf (fT (fBin dLt (fNw 2) (fUn dLen (fSg ω (fNw 0) (fC (.int 0)))))) (fAsg (fUn dAbs (fBin dItem (fSg ω (fNw 0) (fC (.int 0))) (fNw 2))) (gN 3)) fNext)
  (fSeq (fIf (fT (fBin dLt (fNw 3) (fBin dPow (fC (.int 10)) (fC (.int 18))))) (fSeq (fAsg (fBin dMod (fUn dToInt (fBin dAdd (fBin dAdd (fBin dMul (fNw 3) (fC (.int 48271))) (fBin dMul (fNw 2) (fC (.int 69621)))) (fC (.int 11)))) (fC (.int 2147483647))) (gN 3))
  (fAsg (fBin dAdd (fBin dMul (fBin dMod (fUn dToInt (fBin dAdd (fBin dMul (fNw 3) (fC (.int 16807))) (fC (.int 13)))) (fC (.int 2147483647))) (fC (.int 65537))) (fNw 3)) (gN 3))) fNext)
  (fSeq (fSs ω (fN 0) 1 (fN 3))
  (fSs ω (fN 0) 2 (fBin dAdd (fNw 2) (fC (.int 1))))))))) fNext)
  (fSeq (fAsg (fBin dMod (fUn dToInt (fSg ω (fNw 0) (fC (.int 1)))) (fNw 1)) (gN 4))
  (fSeq (fSs ω (fN 0) 1 (fBin dDiv (fSg ω (fNw 0) (fC (.int 1))) (fNw 1)))
  (fRet (fN 4)))))
def m_L_next (ω : SO) : List D → (Int × Nat) → Option (D × (Int × Nat)) := runW 5 (F_L_next ω)
def F_L_arities (ω : SO) : SF (Int × Nat) :=
  (fRet (fBin dItem (fLst (aCons (fTup (aCons (fC (.int 0)) (aCons (fC (.int 0)) (aCons (fC (.int 2)) aNil)))) (aCons (fTup (aCons (fC (.int 0)) (aCons (fC (.int 1)) aNil))) (aCons (fTup (aCons (fC (.int 0)) (aCons (fC (.int 2)) aNil))) (aCons (fTup (aCons (fC (.int 0)) (aCons (fC (.int 1)) (aCons (fC (.int 2)) aNil)))) (aCons (fTup (aCons (fC (.int 0)) (aCons (fC (.int 0)) (aCons (fC (.int 1)) aNil)))) (aCons (fTup (aCons (fC (.int 2)) (aCons (fC (.int 0)) aNil))) (aCons (fTup (aCons (fC (.int 1)) (aCons (fC (.int 0)) (aCons (fC (.int 0)) (aCons (fC (.int 2)) aNil))))) aNil)))))))) (fCallW 2 (m_L_next ω) (aCons (fN 0) (aCons (fC (.int 7)) aNil)))))
def m_L_arities (ω : SO) : List D → (Int × Nat) → Option (D × (Int × Nat)) := runW 1 (F_L_arities ω)
def F_L_automaton (ω : SO) : SF (Int × Nat) :=
  (fSeq (fAsg (fBin dAdd (fNw 2) (fCallW 2 (m_L_next ω) (aCons (fN 0) (aCons (fBin dAdd (fBin dSub (fNw 3) (fNw 2)) (fC (.int 1))) aNil)))) (gN 4))
  (fSeq (fOwn 5 aNil)
  (fSeq (fFor (sSeq (fN 1)) (gN 6) (fIf (fT (fBin dEq (fNw 6) (fC (.int 0)))) (fApp 5 (fCallW 2 (m_L_next ω) (aCons (fN 0) (aCons (fN 4) aNil)))) (fIf (fT (fBin dEq (fNw 6) (fC (.int 1)))) (fApp 5 (fUn dTuple (fLc (sRg1 (fNw 4)) (gN 7) fYes (fCallW 2 (m_L_next ω) (aCons (fN 0) (aCons (fN 4) aNil))) [7]))) (fApp 5 (fUn dTuple (fLc (sRg1 (fNw 4)) (gN 7) fYes (fUn dTuple (fLc (sRg1 (fNw 4)) (gN 8) fYes (fCallW 2 (m_L_next ω) (aCons (fN 0) (aCons (fN 4) aNil))) [8])) [7]))))))
  (fSeq (fAsg (fUn dTuple (fLc (sRg1 (fNw 4)) (gN 7) fYes (fBin dEq (fCallW 2 (m_L_next ω) (aCons (fN 0) (aCons (fC (.int 3)) aNil))) (fC (.int 0))) [7])) (gN 9))
  (fRet (fTup (aCons (fN 1) (aCons (fN 9) (aCons (fUn dTuple (fNw 5)) aNil)))))))))
def m_L_automaton (ω : SO) : List D → (Int × Nat) → Option (D × (Int × Nat)) := runW 10 (F_L_automaton ω)
def F_L_tree (ω : SO) (rec : List D → (Int × Nat) → Option (D × (Int × Nat))) : SF (Int × Nat) :=
  (fSeq (fAsg (fLc (sRg1 (fUn dLen (fNw 1))) (gN 4) (fT (fBin dLt (fBin dItem (fNw 1) (fNw 4)) (fNw 2))) (fN 4) [4]) (gN 3))
  (fSeq (fAsg (fBin dItem (fNw 3) (fCallW 2 (m_L_next ω) (aCons (fN 0) (aCons (fUn dLen (fNw 3)) aNil)))) (gN 4))
  (fSeq (fIf (fT (fBin dEq (fBin dItem (fNw 1) (fNw 4)) (fC (.int 0)))) (fRet (fTup (aCons (fN 4) aNil))) fNext)
  (fSeq (fIf (fT (fBin dEq (fBin dItem (fNw 1) (fNw 4)) (fC (.int 1)))) (fRet (fTup (aCons (fN 4) (aCons (fCallW 3 rec (aCons (fN 0) (aCons (fN 1) (aCons (fBin dSub (fNw 2) (fC (.int 1))) aNil)))) aNil)))) fNext)
  (fSeq (fAsg (fBin dAdd (fC (.int 1)) (fCallW 2 (m_L_next ω) (aCons (fN 0) (aCons (fBin dSub (fNw 2) (fC (.int 2))) aNil)))) (gN 5))
  (fRet (fTup (aCons (fN 4) (aCons (fCallW 3 rec (aCons (fN 0) (aCons (fN 1) (aCons (fN 5) aNil)))) (aCons (fCallW 3 rec (aCons (fN 0) (aCons (fN 1) (aCons (fBin dSub (fBin dSub (fNw 2) (fC (.int 1))) (fNw 5)) aNil)))) aNil))))))))))
def m_L_tree : Nat → ∀ ω : SO, List D → (Int × Nat) → Option (D × (Int × Nat))
  | 0 => fun _ _ _ => none
  | j + 1 => fun ω => runW 6 (F_L_tree ω (m_L_tree j ω))
def F_L_places_of (ω : SO) : SF (Int × Nat) :=
  (fSeq (fAsg (fCall 1 (m_L_places 20) (aCons (fN 1) aNil)) (gN 2))
  (fSeq (fAsg (fBin dItem (fNw 2) (fCallW 2 (m_L_next ω) (aCons (fN 0) (aCons (fUn dLen (fNw 2)) aNil)))) (gN 3))
  (fSeq (fIf (fAndT (fT (fBin dEq (fCallW 2 (m_L_next ω) (aCons (fN 0) (aCons (fC (.int 6)) aNil))) (fC (.int 0)))) (fT (fBin dLt (fUn dLen (fNw 3)) (fC (.int 14))))) (fAsg (fBin dAdd (fNw 3) (fTup (aCons (fCallW 2 (m_L_next ω) (aCons (fN 0) (aCons (fC (.int 2)) aNil))) aNil))) (gN 3)) fNext)
  (fRet (fN 3)))))
def m_L_places_of (ω : SO) : List D → (Int × Nat) → Option (D × (Int × Nat)) := runW 4 (F_L_places_of ω)
def F_L_command (ω : SO) : SF (Int × Nat) :=
  (fSeq (fAsg (fN 1) (gT 3 (gsCons 3 (gsCons 4 (gsCons 5 gsNil)))))
  (fSeq (fAsg (fCallW 2 (m_L_next ω) (aCons (fN 0) (aCons (fC (.int 10)) aNil))) (gN 6))
  (fSeq (fAsg (fUn dLen (fNw 2)) (gN 7))
  (fSeq (fIf (fOrT (fT (fBin dLt (fNw 6) (fC (.int 3)))) (fT (fBin dEq (fNw 7) (fC (.int 0))))) (fRet (fTup (aCons (fC (.str "put")) (aCons (fCallW 3 (m_L_tree 20 ω) (aCons (fN 0) (aCons (fN 3) (aCons (fC (.int 7)) aNil)))) aNil)))) fNext)
  (fSeq (fIf (fT (fBin dLt (fNw 6) (fC (.int 7)))) (fSeq (fAsg (fCallW 2 (m_L_next ω) (aCons (fN 0) (aCons (fBin dAdd (fNw 7) (fUn dToInt (fBin dLt (fNw 7) (fC (.int 11))))) aNil))) (gN 8))
  (fSeq (fAsg (fCallW 2 (m_L_next ω) (aCons (fN 0) (aCons (fN 7) aNil))) (gN 9))
  (fSeq (fAsg (fTup aNil) (gN 10))
  (fSeq (fIf (fT (fBin dLt (fNw 8) (fNw 7))) (fAsg (fCallW 2 (m_L_places_of ω) (aCons (fN 0) (aCons (fBin dItem (fNw 2) (fNw 8)) aNil))) (gN 10)) fNext)
  (fRet (fTup (aCons (fC (.str "swap")) (aCons (fN 8) (aCons (fN 10) (aCons (fN 9) (aCons (fCallW 2 (m_L_places_of ω) (aCons (fN 0) (aCons (fBin dItem (fNw 2) (fNw 9)) aNil))) aNil))))))))))) fNext)
  (fSeq (fIf (fT (fBin dEq (fNw 6) (fC (.int 7)))) (fRet (fTup (aCons (fC (.str "take")) (aCons (fCallW 2 (m_L_next ω) (aCons (fN 0) (aCons (fBin dAdd (fNw 7) (fUn dToInt (fBin dLt (fNw 7) (fC (.int 11))))) aNil))) aNil)))) fNext)
  (fSeq (fIf (fT (fBin dEq (fNw 6) (fC (.int 8)))) (fRet (fTup (aCons (fC (.str "good")) (aCons (fCallW 2 (m_L_next ω) (aCons (fN 0) (aCons (fUn dLen (fNw 4)) aNil))) (aCons (fBin dEq (fCallW 2 (m_L_next ω) (aCons (fN 0) (aCons (fC (.int 2)) aNil))) (fC (.int 1))) aNil))))) fNext)
  (fSeq (fAsg (fCallW 2 (m_L_next ω) (aCons (fN 0) (aCons (fUn dLen (fNw 3)) aNil))) (gN 11))
  (fSeq (fAsg (fUn dTuple (fLc (sRg1 (fBin dItem (fNw 3) (fNw 11))) (gN 13) fYes (fCallW 2 (m_L_next ω) (aCons (fN 0) (aCons (fUn dLen (fNw 4)) aNil))) [13])) (gN 12))
  (fRet (fTup (aCons (fC (.str "step")) (aCons (fN 11) (aCons (fN 12) (aCons (fCallW 2 (m_L_next ω) (aCons (fN 0) (aCons (fUn dLen (fNw 4)) aNil))) aNil)))))))))))))))
def m_L_command (ω : SO) : List D → (Int × Nat) → Option (D × (Int × Nat)) := runW 14 (F_L_command ω)
def F_swapped  : SF Unit :=
  (fSeq (fAsg (fN 1) (gT 5 (gsCons 2 (gsCons 3 (gsCons 4 (gsCons 5 (gsCons 6 gsNil)))))))
  (fSeq (fIf (fOrT (fT (fBin dGe (fNw 3) (fUn dLen (fNw 0)))) (fT (fBin dGe (fNw 5) (fUn dLen (fNw 0))))) (fRaise "missing") fNext)
  (fSeq (fPar 7 8 (aCons (fCall 2 m_part_at (aCons (fBin dItem (fNw 0) (fNw 3)) (aCons (fN 4) aNil))) (aCons (fCall 2 m_part_at (aCons (fBin dItem (fNw 0) (fNw 5)) (aCons (fN 6) aNil))) aNil)))
  (fSeq (fIf (fOrT (fT (fBin dIsN (fNw 7) (fC .non))) (fT (fBin dIsN (fNw 8) (fC .non)))) (fRaise "place") fNext)
  (fSeq (fIf (fAndT (fT (fBin dEq (fNw 3) (fNw 5))) (fOrT (fT (fBin dEq (fSl (fNw 4) oNo (oSome (fUn dLen (fNw 6)))) (fNw 6))) (fT (fBin dEq (fSl (fNw 6) oNo (oSome (fUn dLen (fNw 4)))) (fNw 4))))) (fRaise "overlap") fNext)
  (fSeq (fAsg (fCall 3 m_replaced (aCons (fN 0) (aCons (fN 3) (aCons (fCall 3 (m_put_at 20) (aCons (fBin dItem (fNw 0) (fNw 3)) (aCons (fN 4) (aCons (fN 8) aNil)))) aNil)))) (gN 9))
  (fSeq (fAsg (fCall 3 m_replaced (aCons (fN 9) (aCons (fN 5) (aCons (fCall 3 (m_put_at 20) (aCons (fBin dItem (fNw 9) (fNw 5)) (aCons (fN 6) (aCons (fN 7) aNil)))) aNil)))) (gN 9))
  (fSeq (fIf (fOrT (fT (fBin dGt (fCall 1 (m_size_of 40) (aCons (fBin dItem (fNw 9) (fNw 3)) aNil)) (fC (.int 15)))) (fT (fBin dGt (fCall 1 (m_size_of 40) (aCons (fBin dItem (fNw 9) (fNw 5)) aNil)) (fC (.int 15))))) (fRaise "great") fNext)
  (fRet (fN 9))))))))))
def m_swapped  : List D → Unit → Option (Res × Unit) := runX 10 (F_swapped)
def F_behind  : SF Unit :=
  (fSeq (fAsg (fN 0) (gT 2 (gsCons 2 (gsCons 3 gsNil))))
  (fSeq (fAsg (fN 2) (gT 3 (gsCons 4 (gsCons 5 (gsCons 6 gsNil)))))
  (fSeq (fIf (fT (fBin dEq (fBin dItem (fNw 1) (fC (.int 0))) (fC (.str "step")))) (fSeq (fAsg (fCall 3 m_entry_with (aCons (fBin dItem (fNw 6) (fBin dItem (fNw 1) (fC (.int 1)))) (aCons (fBin dItem (fNw 1) (fC (.int 2))) (aCons (fBin dItem (fNw 1) (fC (.int 3))) aNil)))) (gN 7))
  (fRet (fTup (aCons (fTup (aCons (fN 4) (aCons (fN 5) (aCons (fCall 3 m_replaced (aCons (fN 6) (aCons (fBin dItem (fNw 1) (fC (.int 1))) (aCons (fN 7) aNil)))) aNil)))) (aCons (fN 3) aNil))))) fNext)
  (fSeq (fIf (fT (fBin dEq (fBin dItem (fNw 1) (fC (.int 0))) (fC (.str "good")))) (fRet (fTup (aCons (fTup (aCons (fN 4) (aCons (fCall 3 m_replaced (aCons (fN 5) (aCons (fBin dItem (fNw 1) (fC (.int 1))) (aCons (fBin dItem (fNw 1) (fC (.int 2))) aNil)))) (aCons (fN 6) aNil)))) (aCons (fN 3) aNil)))) fNext)
  (fSeq (fIf (fT (fBin dEq (fBin dItem (fNw 1) (fC (.int 0))) (fC (.str "put")))) (fSeq (fIf (fT (fBin dGe (fUn dLen (fNw 3)) (fC (.int 12)))) (fRaise "many") fNext)
  (fRet (fTup (aCons (fN 2) (aCons (fBin dAdd (fNw 3) (fTup (aCons (fBin dItem (fNw 1) (fC (.int 1))) aNil))) aNil))))) fNext)
  (fSeq (fIf (fT (fBin dEq (fBin dItem (fNw 1) (fC (.int 0))) (fC (.str "swap")))) (fRetR (Sub.id W0) (fN 2) 2 m_swapped (aCons (fN 3) (aCons (fN 1) aNil))) fNext)
  (fSeq (fIf (fT (fBin dGe (fBin dItem (fNw 1) (fC (.int 1))) (fUn dLen (fNw 3)))) (fRaise "missing") fNext)
  (fRet (fTup (aCons (fN 2) (aCons (fBin dAdd (fSl (fNw 3) oNo (oSome (fBin dItem (fNw 1) (fC (.int 1))))) (fSl (fNw 3) (oSome (fBin dAdd (fBin dItem (fNw 1) (fC (.int 1))) (fC (.int 1)))) oNo)) aNil)))))))))))
def m_behind  : List D → Unit → Option (Res × Unit) := runX 8 (F_behind)
def F_G_act (ω : GO) : SF GS :=
  (fSeq (fIf (fNotT (fTru (fCall 2 m_is_command (aCons (fN 1) (aCons (fGf ω (fN 0)) aNil))))) (fun _ _ => .no) fNext)
  (fSeq (fSetR (Sub.none (GW ω)) 2 2 m_behind (aCons (fGl ω (fN 0)) (aCons (fN 1) aNil)))
  (fSeq (fIf (fT (fBin dGe (fUn dLen (fGc ω (fN 0))) (fC (.int 20)))) (fun _ _ => .no) fNext)
  (fSeq (fGp ω (fN 0) (fN 2))
  (fSeq (fGs ω (fN 0) (fBin dAdd (fGc ω (fN 0)) (fTup (aCons (fN 1) aNil))))
  (fRet (fUn dLen (fGc ω (fN 0)))))))))
def m_G_act (ω : GO) : List D → GS → Option (Res × GS) := runX 3 (F_G_act ω)
def F_G_automaton (ω : GO) : SF GS :=
  (fRet (fBin dItem (fGl ω (fN 0)) (fC (.int 0))))
def m_G_automaton (ω : GO) : List D → GS → Option (D × GS) := runW 1 (F_G_automaton ω)
def F_G_trees (ω : GO) : SF GS :=
  (fRet (fBin dItem (fGl ω (fN 0)) (fC (.int 1))))
def m_G_trees (ω : GO) : List D → GS → Option (D × GS) := runW 1 (F_G_trees ω)
def F_G_journal (ω : GO) : SF GS :=
  (fRet (fGc ω (fN 0)))
def m_G_journal (ω : GO) : List D → GS → Option (D × GS) := runW 1 (F_G_journal ω)
def F_G_states (ω : GO) : SF GS :=
  (fRet (fCall 1 m_states_in (aCons (fGl ω (fN 0)) aNil)))
def m_G_states (ω : GO) : List D → GS → Option (D × GS) := runW 1 (F_G_states ω)
def F_G_good (ω : GO) : SF GS :=
  (fRet (fUn dTuple (fLc (sEnum (fMeth (Sub.id (GW ω)) 1 (m_G_states ω) (fN 0) aNil)) (gT 2 (gsCons 1 (gsCons 2 gsNil))) (fTru (fBin dItem (fBin dItem (fMeth (Sub.id (GW ω)) 1 (m_G_automaton ω) (fN 0) aNil) (fC (.int 1))) (fNw 2))) (fN 1) [1, 2])))
def m_G_good (ω : GO) : List D → GS → Option (D × GS) := runW 3 (F_G_good ω)
def F_G_let_in (ω : GO) : SF GS :=
  (fSeq (fDrop (fCall 2 m_check_depth (aCons (fN 1) (aCons (fC (.int 12)) aNil))))
  (fRet (fUn dTuple (fLc (sEnum (fMeth (Sub.id (GW ω)) 1 (m_G_trees ω) (fN 0) aNil)) (gT 2 (gsCons 2 (gsCons 3 gsNil))) (fTru (fCall 3 m_let_in (aCons (fMeth (Sub.id (GW ω)) 1 (m_G_automaton ω) (fN 0) aNil) (aCons (fN 1) (aCons (fN 3) aNil))))) (fN 2) [2, 3]))))
def m_G_let_in (ω : GO) : List D → GS → Option (D × GS) := runW 4 (F_G_let_in ω)
end K7
end
section
set_option maxRecDepth 100000
set_option maxHeartbeats 4000000
/-! K76, part q: __init__ of NotPossible and of Garden; _law_told. -/
namespace K7
open PySem L2 K76
section
variable {P : Program} {w : World} {K : PySem.W.Frag} {mg : Str → Option Value} {base : Heap}
theorem sc_npi : FnScope ["self", "why"] ["self", "why"] (defScope s_NotPossible_init) := ⟨rfl, rfl, rfl, by decide +kernel, rfl, by decide +kernel, by decide +kernel⟩
theorem ok_npi {f C fI : Addr} {fd : FuncData} (D : FunD K "__init__" "NotPossible.__init__" (defArgs s_NotPossible_init) (defBody s_NotPossible_init) (defScope s_NotPossible_init) [] [] f fd) (T : NpT K mg C fI) : FnOk P w K mg base CX0 1 f fd ["self", "why"] (spI C) := by
  refine D.ok sc_npi (fun vs H Q E q => ?_) fun cdv A outer s H vs Q E hr q => ?_
  · obtain ⟨a, v, rfl, _⟩ := q
    rfl
  · obtain ⟨a, v, rfl, ha, q⟩ := q
    refine ⟨_, PSs.nox (pss_one (ps_ost (pv 0) (pv 1) rfl)), ?_⟩
    exact ⟨v, rfl, .ref a, rfl, a, C, rfl, T.oex, T.noW, .inl ⟨ha, fun dx h1 h2 => q dx h1 h2⟩⟩
theorem np_mk {f C : Addr} {fd : FuncData} (D : FunD K "__init__" "NotPossible.__init__" (defArgs s_NotPossible_init) (defBody s_NotPossible_init) (defScope s_NotPossible_init) [] [] f fd) (T : NpT K mg C f) : Np P w K mg base C :=
  ⟨f, fd, T, ok_npi D T, D.bindsN fun _ _ _ _ _ _ us hl => match us, hl with | [_, _], _ => rfl⟩

theorem none_of_upd {H : Hp} {a b : Addr} {o : HO} (h : upd H a o b = none) : b ≠ a ∧ H b = none := by
  by_cases e : b = a
  · rw [e, upd_same] at h
    cases h
  · rw [upd_ne e] at h
    exact ⟨e, h⟩
theorem post_of {W : Wd} {EX : NX} {Mb : Addr → Prop} {ρ : List SV} {σ : L2.St} {H : Hp} {E : Ends} {o o' : Out W.S} (e : o = o') (h : Post W EX Mb ρ σ H E o') : Post W EX Mb ρ σ H E o := e ▸ h
/-! ### Garden.__init__ -/
def gInit (d : D) : List D × List D := ([.tup [d, .tup []]], [])
def spGI (C : Addr) : Sp := fun vs H Q _ => ∃ (p dx : Addr) (va : V) (Mb : Addr → Prop) (d : D), vs = [.ref p, va] ∧ H p = some (.ins C dx []) ∧ Mb p ∧ (∀ a, Mb a → H a ≠ none) ∧ Rep Mb H d va ∧ m_check_automaton [d, .str "automaton"] = some .non ∧
  ∀ (pp : Addr) H', H pp = none → (∀ a o, a ≠ p → H a = some o → H' a = some o) → (GW ⟨C, p, pp, d⟩).rel (fun a => Mb a ∨ a = pp) (gInit d) H' → Q .non H'
theorem sc_gi : FnScope ["self", "automaton"] ["self", "automaton"] (defScope s_Garden_init) := ⟨rfl, rfl, rfl, by decide +kernel, rfl, by decide +kernel, by decide +kernel⟩
theorem put3 {vf v vc : V} : putF "commands" vc (putF "past" v (putF "first" vf [])) = ([("first", vf), ("past", v), ("commands", vc)] : List (Str × V)) := by
  have h1 : ¬ (("first" : Str) = "past") := by decide
  have h2 : ¬ (("first" : Str) = "commands") := by decide
  have h3 : ¬ (("past" : Str) = "commands") := by decide
  simp only [putF, if_neg h1, if_neg h2, if_neg h3]
theorem ok_gi {f C : Addr} {fd : FuncData} (D : FunD K "__init__" "Garden.__init__" (defArgs s_Garden_init) (defBody s_Garden_init) (defScope s_Garden_init) [] [] f fd) (T : GaT K C) (B : Bis mg) {k0 : Nat} (C_check : CalP P w K mg base k0 "check_automaton" 2 m_check_automaton) :
    FnOk P w K mg base CX0 (k0 + 1) f fd ["self", "automaton"] (spGI C) := by
  refine D.ok sc_gi (fun vs H Q E q => ?_) fun cdv A outer s H vs Q E hr q => ?_
  · obtain ⟨p, dx, va, Mb, d, rfl, _⟩ := q
    rfl
  · obtain ⟨p, dx, va, Mb, d, rfl, hp, hMp, htr, hr0, hm, q⟩ := q
    have h1 : XS W0 noEX (cxOf CX0 P w K mg base ["self", "automaton"] "Garden.__init__" (defScope s_Garden_init) f cdv A outer s H E).nox ((defBody s_Garden_init).getD 0 (.Pass ⟨0, 0, 0, 0⟩)) (fDrop (fCall 2 m_check_automaton (aCons (fN 1) (aCons (fC (.str "automaton")) aNil)))) :=
      xs_expr (xe_call C_check hr (xa_cons (xe_n 1) (xa_cons xe_str xa_nil)))
    refine ⟨_, PSs.nox (pss_cons h1.p (pss_cons (ps_fld (pv 0) (pv 1) rfl) (pss_cons (ps_fld (pv 0) (pe_lst (pa_cons (pe_tup (pa_cons (pv 1) (pa_cons (pe_tup pa_nil) pa_nil))) pa_nil)) rfl) (pss_one (ps_fld (pv 0) (pe_tup pa_nil) rfl))))), ?_⟩
    obtain ⟨R, no⟩ := start_rel (N := ["self", "automaton"]) (W := W0) (Mb := Mb) (ds := [.h p, d]) (vs := [.ref p, va]) (s := ()) (H := H) (show 2 ≤ 2 by decide) (fun a z => z.elim) htr (.cons (by simp only [Rep]) (.cons hr0 .nil)) trivial
    refine ⟨Mb, [.im (.h p), .im d], (), R, ?_⟩
    have e1 : fDrop (fCall 2 m_check_automaton (aCons (fN 1) (aCons (fC (.str "automaton")) aNil))) [SV.im (.h p), SV.im d] () = .nx [SV.im (.h p), SV.im d] () := by
      simp [fDrop, fCall, aCons, aNil, fN, fC, hm]
    refine post_of e1 ?_
    intro σ1 H1 g1 _ R1
    obtain ⟨o1, hs0, x0, rfl, r0⟩ := slot_get R1 (i := 0) rfl
    obtain ⟨o2, hs1, x1, rfl, r1⟩ := slot_get R1 (i := 1) rfl
    simp only [Rep] at r0
    subst r0
    replace r1 : Rep Mb H1 d x1 := r1.more fun a h => .inl (.inl h)
    have g : ∀ a o, H a = some o → H1 a = some o := fun a o e => g1 a o (fun z => z) (no a) e
    have back : ∀ a, H1 a = none → H a = none := fun a e => by
      cases h : H a with
      | none => rfl
      | some o =>
        rw [g a o h] at e
        cases e
    have hp1 := g p _ hp
    have L0 : ([] : List V).length ≤ sizeLine := Nat.zero_le _
    refine ⟨x1, hs1, .ref p, hs0, p, C, dx, [], rfl, hp1, T.cl, T.nF, (by show 0 < 1000; decide), ?_⟩
    refine ⟨x1, hs1, L0, fun p0 n0 => ⟨lim_ok (show 2 ≤ LIM by decide), fun p1 n1 => ⟨lim_ok (show 1 ≤ LIM by decide), fun pp n2 => ?_⟩⟩⟩
    obtain ⟨d0, m0⟩ := none_of_upd n0
    obtain ⟨d10, n1'⟩ := none_of_upd n1
    obtain ⟨d1, m1⟩ := none_of_upd n1'
    obtain ⟨d21, n2'⟩ := none_of_upd n2
    obtain ⟨d20, n2''⟩ := none_of_upd n2'
    obtain ⟨d2, m2⟩ := none_of_upd n2''
    refine ⟨.ref p, hs0, p, C, dx, putF "first" x1 [], rfl, by rw [upd_ne d2.symm, upd_ne d1.symm, upd_ne d0.symm, upd_same], T.cl, T.nP, (by show 1 < 1000; decide), ?_⟩
    refine ⟨L0, fun p3 n3 => ?_⟩
    obtain ⟨d3, n3'⟩ := none_of_upd n3
    obtain ⟨d32, n3''⟩ := none_of_upd n3'
    obtain ⟨d31, n3'''⟩ := none_of_upd n3''
    obtain ⟨d30, n3''''⟩ := none_of_upd n3'''
    obtain ⟨_, m3⟩ := none_of_upd n3''''
    refine ⟨.ref p, hs0, p, C, dx, putF "past" (.ref pp) (putF "first" x1 []), rfl, by rw [upd_ne d3.symm, upd_same], T.cl, T.nC, (by show 2 < 1000; decide), ?_⟩
    have kp : ∀ {a o}, a ≠ p → H1 a = some o → (upd (upd (upd (upd (upd (upd (upd H1 p (.ins C dx (putF "first" x1 []))) p0 (.tup [])) p1 (.tup [x1, .ref p0])) pp (.lst [.ref p1])) p (.ins C dx (putF "past" (.ref pp) (putF "first" x1 [])))) p3 (.tup [])) p
        (.ins C dx (putF "commands" (.ref p3) (putF "past" (.ref pp) (putF "first" x1 []))))) a = some o := fun {a o} n e => by
      rw [upd_ne n, upd_ne (ne_of_none e m3), upd_ne n, upd_ne (ne_of_none e m2), upd_ne (ne_of_none e m1), upd_ne (ne_of_none e m0), upd_ne n]
      exact e
    have notM : ∀ {a}, a ≠ pp → H1 a = none → ¬ (Mb a ∨ a = pp) := fun {a} n e z => z.elim (fun y => htr a y (back a e)) n
    refine q pp _ (back pp m2) (fun a o n e => kp n (g a o e)) ⟨dx, x1, .ref p3, [.ref p1], ?_, ?_, ?_, ?_, ?_⟩
    · rw [upd_same, put3]
      rfl
    · refine r1.step (fun a o n e => kp (fun z => n (by rw [z]; exact hMp)) e) fun a z => ?_
      rcases z with z | z
      · exact .inl z
      · exact .inr (by rw [z]; exact m2)
    · show _ = _
      rw [upd_ne d2, upd_ne d32.symm, upd_ne d2, upd_same]
    · refine .cons ?_ .nil
      refine rep_tup (notM d21.symm m1) (vs := [x1, .ref p0]) ?_ (.cons ?_ (.cons (rep_tup (notM d20.symm m0) (vs := []) ?_ .nil) .nil))
      · rw [upd_ne d1, upd_ne d31.symm, upd_ne d1, upd_ne d21.symm, upd_same]
      · refine r1.step (fun a o n e => kp (fun z => n (by rw [z]; exact hMp)) e) fun a z => ?_
        rcases z with z | z
        · exact .inl z
        · exact .inr (by rw [z]; exact m2)
      · rw [upd_ne d0, upd_ne d30.symm, upd_ne d0, upd_ne d20.symm, upd_ne d10.symm, upd_same]
    · exact rep_tup (notM d32 m3) (vs := []) (by rw [upd_ne d3, upd_same]) .nil

/-! ### _law_told -/
def tMethY (C : Addr) (m : Str) (sp : Sp) (E : L2.St → XK) (ta : TE) (t : TA) : TE := fun σ H Q => ta σ H fun x H1 => ∃ a dx fs, x = .ref a ∧ H1 a = some (.ins C dx fs) ∧ fs.lookup m = none ∧ t σ H1 fun vs H2 => sp (x :: vs) H2 Q (E σ)
theorem pe_methY {X : Cx} {CX : CXT} {k : Nat} {C f : Addr} {fd : FuncData} {ps : List Str} {sp : Sp} {E : L2.St → XK} {m : Str} {pos apos : Pos} {e o : Expr} {es : List Expr} {ta : TE} {t : TA} {pl : Sem Bool}
    (he : PE X o ta) (c : Cls X.K C) (hm : Meth X.K C m f) (F : FnOk X.prog X.w X.K X.mg X.base CX k f fd ps sp) (hr : Room k X.A) (hb : Binds X.K fd ps []) (hx : ∀ σ, PassesAt CX X σ (E σ)) (ha : PA X (e :: es) t)
    (hst : starEach (e :: es) X.env = (false, eval e X.env) :: starEach es X.env := by rfl) (hpl : (backTo pos (starEach es X.env)).any (·.1) = false := by rfl)
    (ht : eval (.Call (.Attribute o m apos) (e :: es) [] pos) X.env = (do
      let ov ← eval o X.env
      standAt apos.atName
      let (f, first) ← holding [ov] (getMethod ov m pl)
      callWith pos f first (backTo pos (starEach (e :: es) X.env)) (backToKw pos (keywordEach [] X.env))) := by rfl) :
    PE X (.Call (.Attribute o m apos) (e :: es) [] pos) (tMethY C m sp E ta t) := by
  refine ⟨fun pins s σ H Q I h => ?_⟩
  refine PySem.W.methodCall_KW (pl := pl) (thn (he.run pins s σ H _ I h) fun u s1 ⟨x, H1, I1, rx, a, dx, fs, ex, ea, l, q⟩ => ?_) ht
  subst ex
  obtain rfl : u = Value.ref a := rx
  refine getmeth_ok I1 ea c hm l ?_
  refine PySem.W.callWith_K (first := [.ref a]) (h₀ := X.base) I.ok.mod.kin hm.kp (thn (ha.run pos pins s1 σ H1 _ I1 q) fun us s2 ⟨vs, H2, I2, r, q2⟩ => ⟨I2.kIn, ?_⟩) hst hpl
  exact run_fnS (us := .ref a :: us) (vs := .ref a :: vs) F hr hb (hx σ) I2 (.cons rfl r) q2
def m_L_told (ω : GO) (ds : List D) (s : GS) : Option (D × GS) := match ds with
  | [o, c] => if isH ω.pg o = true then match m_G_act ω [.h ω.pg, c] s with
      | some (.inl d, s') => some (d, s')
      | some (.inr why, s') => some (.tup [.str "not", .str why], s')
      | none => none
    else none
  | _ => none
theorem sc_told : FnScope ["_law_garden", "_law_command_here", "e"] ["_law_garden", "_law_command_here"] (defScope s_L_told) := ⟨rfl, rfl, rfl, by decide +kernel, rfl, by decide +kernel, by decide +kernel⟩
theorem ok_L_told {f Cg Cn : Addr} {fd : FuncData} {k0 : Nat} (D : Def K mg "_law_told" "_law_told" "_law_told" s_L_told f fd) (T : GaT K Cg) (N : Np P w K mg base Cn) (A_ : CalY P w K mg base Cg Cn k0 "act" 2 m_G_act) :
    CalW P w K mg base (k0 + 1) "_law_told" 2 (fun q : {ω : GO // ω.C = Cg} => GW q.1) (fun q => m_L_told q.1) := by
  refine calW_mk D (ps := ["_law_garden", "_law_command_here"]) rfl ?_ (fun _ _ _ _ _ _ us hl => match us, hl with | [_, _], _ => rfl)
  obtain ⟨fa, fda, psa, a1, a2, a3, a4⟩ := A_.ex
  obtain ⟨fI, fdI, nT, _, _⟩ := N.ex
  refine D.fn.ok sc_told (fun vs H Q E q => ?_) fun cdv A outer s H vs Q E hr q => ?_
  · obtain ⟨ω, Mb, ds, d, s1, s2, h1, h2, h3, h4, h5, _⟩ := q
    rw [h5.length, h1]
    rfl
  · obtain ⟨⟨ω, hC⟩, Mb, ds, d, s1, s2, h1, h2, h3, h4, h5, h6, h7⟩ := q
    refine ⟨_, PSs.nox (pss_one (ps_try_as (i := 2) (tb := fun W => tRet (tMethY Cg "act" (spX Cn (fun q : {ω : GO // ω.C = Cg} => GW q.1) 2 fun q => m_G_act q.1) (WE W) (tVar 0) (tCons (tVar 1) tNil)))
      (ts := fun a cls d => tRet (tTup (tCons (tC (.str "not")) (tCons (tXf a cls d Cn "why" (tVar 2)) tNil)))) (Wout := fun _ _ _ _ => False) rfl rfl sc_told.nd rfl rfl ⟨rfl, by decide, Or.inl nT.gC⟩ takes0
      (fun W pn xe tk _ => pss_one (ps_ret (pe_methY (pv 0) T.cl a3 a2 hr a4 (fun σ => passAt tk σ) (pa_cons (pv 1) pa_nil))))
      (fun a oe cls d pn hz hf => pss_one (ps_ret (pe_tup (pa_cons pe_str (pa_cons (pe_xf nT.xf nT.noW hz hf (pv 2)) pa_nil))))))), ?_⟩
    match ds, h1 with
    | [o, c], _ =>
      obtain ⟨v0, r0, rfl, q0, l0⟩ := h5.inv
      obtain ⟨v1, r1, rfl, q1, l1⟩ := l0.inv
      obtain rfl := l1.inv0
      unfold m_L_told at h6
      simp only at h6
      split at h6
      · rename_i hh
        have ho := isH_eq hh
        subst ho
        obtain ⟨dx, vf, vc, vs, k1, k2, k3, k4, k5⟩ := id h4
        have hv0 : v0 = .ref ω.pg := by simpa only [Rep] using q0
        have hC' : ω.C = Cg := hC
        refine ⟨v0, rfl, ω.pg, dx, _, hv0, by rw [← hC']; exact k1, lk_no (by decide) (by decide) (by decide), v1, rfl, ?_⟩
        split at h6
        · rename_i d' s' e
          cases h6
          exact ⟨⟨ω, hC⟩, Mb, [.h ω.pg, c], .inl d, s1, s2, rfl, h2, h3, h4, .cons q0 (.cons q1 .nil), e, fun v H' g w r => h7 v H' g w r⟩
        · rename_i why s' e
          cases h6
          refine ⟨⟨ω, hC⟩, Mb, [.h ω.pg, c], .inr why, s1, s2, rfl, h2, h3, h4, .cons q0 (.cons q1 .nil), e, fun dx' H' g w hx => ⟨true, nT.te, fun _ a ha => ?_, fun z => Bool.noConfusion z⟩⟩
          refine ⟨.ref a, rfl, rfl, rfl, dx', _, .str why, rfl, hx, rfl, lim_ok (show 2 ≤ LIM by decide), fun p hp => ?_⟩
          have trk' : ∀ b, Mb b → H' b ≠ none := fun b m => by
            by_cases z : (GW ω).at_ b
            · exact (GW ω).trk _ _ _ b w z
            · cases y : H b with
              | none => exact absurd y (h3 b m)
              | some o =>
                rw [g b o z y]
                intro z
                cases z
          have mk : MOk (GW ω) Mb H' := ⟨h2, trk'⟩
          exact new_tup mk (.cons rep_str (.cons rep_str .nil)) (fun v H2 x2 r2 => h7 v H2 (g.trans x2.gr) ((GW ω).ex x2 w) r2) p hp
        · cases h6
      · cases h6
end
end K7
end
section
set_option maxRecDepth 100000
set_option maxHeartbeats 4000000
namespace K7
open PySem L2 K76
/-- the law's world: the stream, the garden -/
structure LO where
  s : SO
  g : GO
  d1 : s.ps ≠ g.pg
  d2 : s.ps ≠ g.pp
def LO.W (ω : LO) : Wd := (SW ω.s).prod (GW ω.g)
theorem LO.dj (ω : LO) : ∀ a, (SW ω.s).at_ a → (GW ω.g).at_ a → False := fun a h k => by
  have h' : a = ω.s.ps := h
  rcases k with k | k
  · exact ω.d1 (h'.symm.trans k)
  · exact ω.d2 (h'.symm.trans k)
def E1 (ω : LO) : Sub ω.W (SW ω.s) := Sub.fst ω.dj
def E2 (ω : LO) : Sub ω.W (GW ω.g) := Sub.snd ω.dj
def N_law : List Str := ["_law_script", "_law_stream_here", "_law_first", "_law_garden", "_law_state_here", "_law_journal", "_law_turn", "_law_command_here", "_law_due", "_law_states_here", "_law_good", "_law_at", "_law_depth", "_law_near"]
def F_law (ω : LO) : SF ((Int × Nat) × GS) :=
  (fSeq (fAsg (fTup (aCons (fN 2) (aCons (fTup aNil) aNil))) (gN 4))
  (fSeq (fAsg (fTup aNil) (gN 5))
  (fSeq (fFor (sRg1 (fCallS (E1 ω) 2 (m_L_next ω.s) (aCons (fN 1) (aCons (fC (.int 19)) aNil)))) (gN 6) (fSeq (fAsg (fCallS (E1 ω) 3 (m_L_command ω.s) (aCons (fN 1) (aCons (fN 2) (aCons (fBin dItem (fNw 4) (fC (.int 1))) aNil)))) (gN 7))
  (fSeq (fAsg (fCall 2 m_L_why_not (aCons (fBin dItem (fNw 4) (fC (.int 1))) (aCons (fN 7) aNil))) (gN 8))
  (fSeq (fIf (fT (fBin dEq (fNw 8) (fC (.str "")))) (fSeq (fAsg (fCall 3 m_L_behind (aCons (fBin dItem (fNw 4) (fC (.int 0))) (aCons (fBin dItem (fNw 4) (fC (.int 1))) (aCons (fN 7) aNil)))) (gN 4))
  (fSeq (fAsg (fBin dAdd (fNw 5) (fTup (aCons (fN 7) aNil))) (gN 5))
  (fAsg (fUn dLen (fNw 5)) (gN 8)))) (fAsg (fTup (aCons (fC (.str "not")) (aCons (fN 8) aNil))) (gN 8)))
  (fSeq (fIf (fNotT (fTru (fCall 2 (m_L_equal 30) (aCons (fCallS (E2 ω) 2 (m_L_told ω.g) (aCons (fN 3) (aCons (fN 7) aNil))) (aCons (fN 8) aNil))))) (fRet (fC (.bl false))) fNext)
  (fIf (fNotT (fTru (fCall 2 (m_L_equal 30) (aCons (fLst (aCons (fMeth (E2 ω) 1 (m_G_automaton ω.g) (fN 3) aNil) (aCons (fMeth (E2 ω) 1 (m_G_trees ω.g) (fN 3) aNil) (aCons (fMeth (E2 ω) 1 (m_G_journal ω.g) (fN 3) aNil) aNil)))) (aCons (fLst (aCons (fBin dItem (fNw 4) (fC (.int 0))) (aCons (fBin dItem (fNw 4) (fC (.int 1))) (aCons (fN 5) aNil)))) aNil))))) (fRet (fC (.bl false))) fNext))))))
  (fSeq (fAsg (fCall 2 m_L_states (aCons (fBin dItem (fNw 4) (fC (.int 0))) (aCons (fBin dItem (fNw 4) (fC (.int 1))) aNil))) (gN 9))
  (fSeq (fAsg (fUn dTuple (fLc (sRg1 (fUn dLen (fNw 9))) (gN 11) (fTru (fBin dItem (fBin dItem (fBin dItem (fNw 4) (fC (.int 0))) (fC (.int 1))) (fBin dItem (fNw 9) (fNw 11)))) (fN 11) [11])) (gN 10))
  (fSeq (fAsg (fBin dItem (fLst (aCons (fC (.int 1)) (aCons (fC (.int 2)) (aCons (fC (.int 3)) (aCons (fBin dAdd (fC (.int 4)) (fCallS (E1 ω) 2 (m_L_next ω.s) (aCons (fN 1) (aCons (fC (.int 9)) aNil)))) aNil))))) (fCallS (E1 ω) 2 (m_L_next ω.s) (aCons (fN 1) (aCons (fC (.int 4)) aNil)))) (gN 12))
  (fSeq (fAsg (fUn dTuple (fLc (sRg1 (fUn dLen (fNw 9))) (gN 11) (fTru (fCall 3 m_L_let_in (aCons (fBin dItem (fNw 4) (fC (.int 0))) (aCons (fN 12) (aCons (fBin dItem (fBin dItem (fNw 4) (fC (.int 1))) (fNw 11)) aNil))))) (fN 11) [11])) (gN 13))
  (fRet (fCall 2 (m_L_equal 30) (aCons (fLst (aCons (fMeth (E2 ω) 1 (m_G_states ω.g) (fN 3) aNil) (aCons (fMeth (E2 ω) 1 (m_G_good ω.g) (fN 3) aNil) (aCons (fMeth (E2 ω) 2 (m_G_let_in ω.g) (fN 3) (aCons (fN 12) aNil)) aNil)))) (aCons (fLst (aCons (fN 9) (aCons (fN 10) (aCons (fN 13) aNil)))) aNil)))))))))))
end K7
end
section
set_option maxRecDepth 100000
set_option maxHeartbeats 4000000
namespace K7
open PySem L2 K76
section
variable {P : Program} {w : World} {K : PySem.W.Frag} {mg : Str → Option Value} {base : Heap}
theorem sc_law : FnScope N_law ["_law_script"] (defScope s_law) := ⟨rfl, rfl, rfl, by decide +kernel, rfl, by decide +kernel, by decide +kernel⟩
def kLaw : Nat := 44
theorem xs_law {Cg f : Addr} (T : GaT K Cg) (B : Bis mg) (C_L_states : CalP P w K mg base 22 "_law_states" 2 m_L_states) (C_L_equal : CalP P w K mg base 31 "_law_equal" 2 (m_L_equal 30)) (C_L_next : CalW P w K mg base 1 "_law_next" 2 SW m_L_next) (C_L_command : CalW P w K mg base 22 "_law_command" 3 SW m_L_command) (C_L_why_not : CalP P w K mg base 42 "_law_why_not" 2 m_L_why_not) (C_L_behind : CalP P w K mg base 22 "_law_behind" 3 m_L_behind) (C_L_told : CalW P w K mg base 44 "_law_told" 2 (fun q : {o : GO // o.C = Cg} => GW q.1) (fun q => m_L_told q.1)) (C_L_let_in : CalP P w K mg base 44 "_law_let_in" 3 m_L_let_in) (M_automaton : CalM P w K mg base Cg 1 "automaton" 1 m_G_automaton) (M_trees : CalM P w K mg base Cg 1 "trees" 1 m_G_trees) (M_journal : CalM P w K mg base Cg 1 "journal" 1 m_G_journal) (M_states : CalM P w K mg base Cg 23 "states" 1 m_G_states) (M_good : CalM P w K mg base Cg 24 "good" 1 m_G_good) (M_let_in : CalM P w K mg base Cg 26 "let_in" 2 m_G_let_in) (ω : LO) (hC : ω.g.C = Cg) (cdv : Value) (A : Around) (outer : List Env) (s : Shared) (H : Hp) (E : XK) (hr : Room 44 (A.deeper (PyProof.Rows.envOfC "law" (defScope s_law) s.heap.objs.size f cdv))) :
    XSs ω.W noEX (cxOf CX0 P w K mg base N_law "law" (defScope s_law) f cdv A outer s H E).nox ((defBody s_law).drop 3) (F_law ω) :=
  (xs_cons (xs_set 4 sc_law.nd (xe_tup (xa_cons (xe_n 2) (xa_cons (xe_tup xa_nil) xa_nil))))
  (xs_cons (xs_set 5 sc_law.nd (xe_tup xa_nil))
  (xs_cons (xs_for PassesOwn.never rfl (xi_rg1 B (XE.w (xe_callS (F := SW) (ω := ω.s) (E1 ω) C_L_next (hr.mono (by decide)) (xa_cons (xe_n 1) (xa_cons xe_int xa_nil))))) (xg_n 6 sc_law.nd) (xs_cons (xs_set 7 sc_law.nd (xe_callS (F := SW) (ω := ω.s) (E1 ω) C_L_command (hr.mono (by decide)) (xa_cons (xe_n 1) (xa_cons (xe_n 2) (xa_cons (xe_ix (xw_n 4) (XE.w xe_int)) xa_nil)))))
  (xs_cons (xs_set 8 sc_law.nd (xe_call C_L_why_not (hr.mono (by decide)) (xa_cons (xe_ix (xw_n 4) (XE.w xe_int)) (xa_cons (xe_n 7) xa_nil))))
  (xs_cons (xs_if (xt_cmp (c_eq (by exact hr.units)) (xw_n 8) (XE.w xe_str)) (xs_cons (xs_set 4 sc_law.nd (xe_call C_L_behind (hr.mono (by decide)) (xa_cons (xe_ix (xw_n 4) (XE.w xe_int)) (xa_cons (xe_ix (xw_n 4) (XE.w xe_int)) (xa_cons (xe_n 7) xa_nil)))))
  (xs_cons (xs_set 5 sc_law.nd (xe_add (xw_n 5) (XE.w (xe_tup (xa_cons (xe_n 7) xa_nil)))))
  (xs_one (xs_set 8 sc_law.nd (xe_len B (xw_n 5)))))) (xs_one (xs_set 8 sc_law.nd (xe_tup (xa_cons xe_str (xa_cons (xe_n 8) xa_nil))))))
  (xs_cons (xs_if (xt_not (xt_truth (XE.w (xe_call C_L_equal (hr.mono (by decide)) (xa_cons (xe_callS (F := fun q : {o : GO // o.C = Cg} => GW q.1) (ω := ⟨ω.g, hC⟩) (m := fun q => m_L_told q.1) (E2 ω) C_L_told (hr.mono (by decide)) (xa_cons (xe_n 3) (xa_cons (xe_n 7) xa_nil))) (xa_cons (xe_n 8) xa_nil)))))) (xs_one (xs_ret xe_bl)) xs_nil)
  (xs_one (xs_if (xt_not (xt_truth (XE.w (xe_call C_L_equal (hr.mono (by decide)) (xa_cons (xe_lst (xa_cons (xe_meth0 (ω := ω.g) (E2 ω) T hC M_automaton (hr.mono (by decide)) (xe_n 3)) (xa_cons (xe_meth0 (ω := ω.g) (E2 ω) T hC M_trees (hr.mono (by decide)) (xe_n 3)) (xa_cons (xe_meth0 (ω := ω.g) (E2 ω) T hC M_journal (hr.mono (by decide)) (xe_n 3)) xa_nil)))) (xa_cons (xe_lst (xa_cons (xe_ix (xw_n 4) (XE.w xe_int)) (xa_cons (xe_ix (xw_n 4) (XE.w xe_int)) (xa_cons (xe_n 5) xa_nil)))) xa_nil)))))) (xs_one (xs_ret xe_bl)) xs_nil)))))))
  (xs_cons (xs_set 9 sc_law.nd (xe_call C_L_states (hr.mono (by decide)) (xa_cons (xe_ix (xw_n 4) (XE.w xe_int)) (xa_cons (xe_ix (xw_n 4) (XE.w xe_int)) xa_nil))))
  (xs_cons (xs_set 10 sc_law.nd (xe_tuple B (XE.w (xe_lc (own := [("_law_at", 11)]) rfl sc_law.nd (xi_rg1 B (XE.w (xe_len B (xw_n 9)))) (blkOk_by (by kernel_rfl)) (fun _ _ _ _ _ => (xg_n 11 sc_law.nd)) (fun _ _ _ _ _ => (xts_one (xt_truth (XE.w (xe_ix (XE.w (xe_ix (XE.w (xe_ix (xw_n 4) (XE.w xe_int))) (XE.w xe_int))) (XE.w (xe_ix (xw_n 9) (xw_n 11)))))))) (fun _ _ _ _ _ => (xe_n 11))))))
  (xs_cons (xs_set 12 sc_law.nd (xe_ix (XE.w (xe_lst (xa_cons xe_int (xa_cons xe_int (xa_cons xe_int (xa_cons (xe_add (XE.w xe_int) (XE.w (xe_callS (F := SW) (ω := ω.s) (E1 ω) C_L_next (hr.mono (by decide)) (xa_cons (xe_n 1) (xa_cons xe_int xa_nil))))) xa_nil)))))) (XE.w (xe_callS (F := SW) (ω := ω.s) (E1 ω) C_L_next (hr.mono (by decide)) (xa_cons (xe_n 1) (xa_cons xe_int xa_nil))))))
  (xs_cons (xs_set 13 sc_law.nd (xe_tuple B (XE.w (xe_lc (own := [("_law_at", 11)]) rfl sc_law.nd (xi_rg1 B (XE.w (xe_len B (xw_n 9)))) (blkOk_by (by kernel_rfl)) (fun _ _ _ _ _ => (xg_n 11 sc_law.nd)) (fun _ _ _ _ _ => (xts_one (xt_truth (XE.w (xe_call C_L_let_in (hr.mono (by decide)) (xa_cons (xe_ix (xw_n 4) (XE.w xe_int)) (xa_cons (xe_n 12) (xa_cons (xe_ix (XE.w (xe_ix (xw_n 4) (XE.w xe_int))) (xw_n 11)) xa_nil)))))))) (fun _ _ _ _ _ => (xe_n 11))))))
  (xs_one (xs_ret (xe_call C_L_equal (hr.mono (by decide)) (xa_cons (xe_lst (xa_cons (xe_meth0 (ω := ω.g) (E2 ω) T hC M_states (hr.mono (by decide)) (xe_n 3)) (xa_cons (xe_meth0 (ω := ω.g) (E2 ω) T hC M_good (hr.mono (by decide)) (xe_n 3)) (xa_cons (xe_meth (ω := ω.g) (E2 ω) T hC M_let_in (hr.mono (by decide)) (xe_n 3) (xa_cons (xe_n 12) xa_nil)) xa_nil)))) (xa_cons (xe_lst (xa_cons (xe_n 9) (xa_cons (xe_n 10) (xa_cons (xe_n 13) xa_nil)))) xa_nil))))))))))))
end
end K7
end
section
set_option maxRecDepth 100000
set_option maxHeartbeats 4000000
/-! K76, part r: the law's def, from what the plain law says. -/
namespace K7
open PySem L2 K76
def spStream (K : PySem.W.Frag) : Sp := fun vs H Q _ => ∃ (a : Addr) (ns : List Int), vs = [.ref a] ∧ SqL K H a (ns.map V.int) ∧ ∀ pl ps, H pl = none → upd H pl (.lst (ns.map V.int)) ps = none → Q (.ref ps) (upd (upd H pl (.lst (ns.map V.int))) ps (.lst [.ref pl, .int 0, .int 0]))
def spLaw (K : PySem.W.Frag) : Sp := fun vs H Q _ => ∃ (a : Addr) (ns : List Int), vs = [.ref a] ∧ SqL K H a (ns.map V.int) ∧ ns.length ≤ 63 ∧ ∀ H', Q (.bl true) H'
def ρ1 (ω : SO) : List SV := [.un, .im (.h ω.ps), .un, .un, .un, .un, .un, .un, .un, .un, .un, .un, .un, .un]
def ρ2 (ω : SO) (d : D) : List SV := [.un, .im (.h ω.ps), .im d, .un, .un, .un, .un, .un, .un, .un, .un, .un, .un, .un]
def ρ3 (ω : SO) (d : D) (g : Addr) : List SV := [.un, .im (.h ω.ps), .im d, .im (.h g), .un, .un, .un, .un, .un, .un, .un, .un, .un, .un]
def F_first (ω : SO) : SF (Int × Nat) := fAsg (fCallW 4 (m_L_automaton ω) (aCons (fN 1) (aCons (fCallW 1 (m_L_arities ω) (aCons (fN 1) aNil)) (aCons (fC (.int 1)) (aCons (fC (.int 4)) aNil))))) (gN 2)
/-- what the plain law says -/
def PlainLaw : Prop := ∀ (ω : SO), ω.ns.length ≤ 63 → ∃ (d : D) (s1 : Int × Nat), F_first ω (ρ1 ω) (0, 0) = .nx (ρ2 ω d) s1 ∧ m_check_automaton [d, .str "automaton"] = some .non ∧
  ∀ ωl : LO, ωl.s = ω → ωl.g.first = d → ∃ s', F_law ωl (ρ3 ω d ωl.g.pg) (s1, gInit d) = .rt (.bl true) s'
theorem no_own {ρ : List SV} {σ : L2.St} (h : ρ.all (fun x => !x.own) = true) : ∀ a, ¬ OwnAt ρ σ a := by
  rintro a ⟨i, ⟨x, h1, h2⟩, _⟩
  have := List.all_eq_true.mp h x (List.mem_of_getElem? h1)
  rw [h2] at this
  cases this
theorem rel_plain {W : Wd} {Mb : Addr → Prop} {ρ : List SV} {s : W.S} {σ : L2.St} {H : Hp} (hl : σ.length = ρ.length) (hp : ρ.all (fun x => !x.own) = true) (sub : ∀ a, W.at_ a → Mb a) (trk : ∀ a, Mb a → H a ≠ none)
    (sl : ∀ (i : Nat) d, ρ[i]? = some (.im d) → ∃ v, σ[i]? = some (some v) ∧ Rep Mb H d v) (w : W.rel Mb s H) : Rel W Mb ρ s σ H := by
  have hM : MO Mb ρ σ = Mb := by
    funext a
    exact propext ⟨fun h => h.elim id fun z => (no_own hp a z).elim, .inl⟩
  refine ⟨hl, sub, trk, fun a h => (no_own hp a h).elim, fun i j a h => (no_own hp a ⟨i, h⟩).elim, fun i x o hx hs => ?_, by rw [hM]; exact w⟩
  rw [hM]
  cases x with
  | un => exact True.intro
  | im d =>
    obtain ⟨v, h1, h2⟩ := sl i d hx
    rw [hs] at h1
    cases h1
    exact ⟨v, rfl, h2⟩
  | ow ds =>
    have := List.all_eq_true.mp hp _ (List.mem_of_getElem? hx)
    cases this
  | od ks =>
    have := List.all_eq_true.mp hp _ (List.mem_of_getElem? hx)
    cases this
theorem no_im {n i : Nat} {d : D} (h : (List.replicate n SV.un)[i]? = some (.im d)) : False := by
  have := List.eq_of_mem_replicate (List.mem_of_getElem? h)
  cases this
section
variable {P : Program} {w : World} {K : PySem.W.Frag} {mg : Str → Option Value} {base : Heap}
theorem sc_stream : FnScope ["_law_script"] ["_law_script"] (defScope s_L_stream) := ⟨rfl, rfl, rfl, by decide +kernel, rfl, by decide +kernel, by decide +kernel⟩
theorem ok_stream {f : Addr} {fd : FuncData} (D : FunD K "_law_stream" "_law_stream" (defArgs s_L_stream) (defBody s_L_stream) (defScope s_L_stream) [] [] f fd) (B : Bis mg) : FnOk P w K mg base CX0 1 f fd ["_law_script"] (spStream K) := by
  refine D.ok sc_stream (fun vs H Q E q => ?_) fun cdv A outer s H vs Q E hr q => ?_
  · obtain ⟨a, ns, rfl, _⟩ := q
    rfl
  · obtain ⟨a, ns, rfl, hS, q⟩ := q
    refine ⟨_, PSs.nox (pss_one (ps_ret (pe_lst (pa_cons (pe_callTy call_list_of rfl B.list (by decide +kernel) (pa_cons (pv 0) pa_nil)) (pa_cons pe_int (pa_cons pe_int pa_nil)))))), ?_⟩
    exact ⟨.ref a, rfl, a, _, rfl, .inl hS, fun pl hpl => ⟨lim_ok (show 3 ≤ LIM by decide), fun ps hps => q pl ps hpl hps⟩⟩
theorem xs_first {f : Addr} (C_L_arities : CalW P w K mg base 2 "_law_arities" 1 SW m_L_arities) (C_L_automaton : CalW P w K mg base 2 "_law_automaton" 4 SW m_L_automaton) (ω : SO) (cdv : Value) (A : Around) (outer : List Env) (s : Shared) (H : Hp) (E : XK) (hr : Room 2 (A.deeper (PyProof.Rows.envOfC "law" (defScope s_law) s.heap.objs.size f cdv))) :
    XS (SW ω) noEX (cxOf CX0 P w K mg base N_law "law" (defScope s_law) f cdv A outer s H E).nox ((defBody s_law).getD 1 (.Pass ⟨0, 0, 0, 0⟩)) (F_first ω) :=
  xs_set 2 sc_law.nd (xe_callW (F := SW) (ω := ω) C_L_automaton hr (xa_cons (xe_n 1) (xa_cons (xe_callW (F := SW) (ω := ω) C_L_arities hr (xa_cons (xe_n 1) xa_nil)) (xa_cons xe_int (xa_cons xe_int xa_nil)))))
/-- the law keeps its promise: R the rest of its body -/
theorem ok_law {f fS fI Cg : Addr} {fd fdS fdI : FuncData} {k0 kI : Nat} (PL : PlainLaw) (D : FunD K "law" "law" (defArgs s_law) (defBody s_law) (defScope s_law) [] [] f fd)
    (FS : FnOk P w K mg base CX0 1 fS fdS ["_law_script"] (spStream K)) (gS : mg "_law_stream" = some (.ref fS)) (kS : PySem.W.keepIn K (.ref fS) = true) (bS : Binds K fdS ["_law_script"] [])
    (FI : FnOk P w K mg base CX0 kI fI fdI ["self", "automaton"] (spGI Cg)) (MI : Mk K Cg fI) (bI : Binds K fdI ["self", "automaton"] []) (gG : mg "Garden" = some (.ref Cg))
    (C_L_arities : CalW P w K mg base 2 "_law_arities" 1 SW m_L_arities) (C_L_automaton : CalW P w K mg base 2 "_law_automaton" 4 SW m_L_automaton) (h1 : 2 ≤ k0) (h2 : kI + 1 ≤ k0)
    (R : ∀ (ω : LO) (hC : ω.g.C = Cg) (cdv : Value) (A : Around) (outer : List Env) (s : Shared) (H : Hp) (E : XK) (hr : Room k0 (A.deeper (PyProof.Rows.envOfC "law" (defScope s_law) s.heap.objs.size f cdv))),
      XSs ω.W noEX (cxOf CX0 P w K mg base N_law "law" (defScope s_law) f cdv A outer s H E).nox ((defBody s_law).drop 3) (F_law ω)) : FnOk P w K mg base CX0 (k0 + 1) f fd ["_law_script"] (spLaw K) := by
  refine D.ok sc_law (fun vs H Q E q => ?_) fun cdv A outer s H vs Q E hr q => ?_
  · obtain ⟨a, ns, rfl, _⟩ := q
    rfl
  · obtain ⟨a, ns, rfl, hS, hl, q⟩ := q
    have t2 : PS (cxOf CX0 P w K mg base N_law "law" (defScope s_law) f cdv A outer s H E).nox ((defBody s_law).getD 1 (.Pass ⟨0, 0, 0, 0⟩)) (fun D σ H => ∃ ω : SO, tOfS (SW ω) noEX (F_first ω) D σ H) :=
      ⟨fun pins s' σ H' D I ⟨ω, h⟩ => (xs_first C_L_arities C_L_automaton ω cdv A outer s H E (hr.mono h1)).p.run pins s' σ H' D I h⟩
    have t4 : PSs (cxOf CX0 P w K mg base N_law "law" (defScope s_law) f cdv A outer s H E).nox ((defBody s_law).drop 3) (fun D σ H => ∃ ω : LO, ω.g.C = Cg ∧ tOfS ω.W noEX (F_law ω) D σ H) :=
      ⟨fun pins s' σ H' D I ⟨ω, hC, h⟩ => (R ω hC cdv A outer s H E hr).p.run pins s' σ H' D I h⟩
    refine ⟨_, PSs.nox (pss_cons (ps_set (i := 1) sc_law.nd rfl (Or.inl rfl) (pe_call FS (hr.mono (Nat.le_trans (by decide) h1)) rfl gS kS bS .nil pass0 (pa_cons (pv 0) pa_nil)))
      (pss_cons t2 (pss_cons (ps_set (i := 3) sc_law.nd rfl (Or.inl rfl) (pe_make MI FI (hr.mono h2) rfl gG bI .nil pass0 (pa_cons (pv 2) pa_nil))) t4))), ?_⟩
    refine ⟨.ref a, rfl, a, ns, rfl, hS, fun pl ps hpl hps => ?_⟩
    obtain ⟨dps, nps⟩ := none_of_upd hps
    obtain ⟨d, s1, e1, hm, e2⟩ := PL ⟨ps, pl, ns⟩ hl
    have hplps : pl ≠ ps := fun z => by
      rw [← z, upd_same] at hps
      cases hps
    refine ⟨⟨ps, pl, ns⟩, fun a => a = ps, ρ1 ⟨ps, pl, ns⟩, (0, 0), ?_, ?_⟩
    · refine rel_plain rfl rfl (fun a h => h) (fun a h => ?_) (fun i d h => ?_) ⟨upd_same, ?_, fun z => hplps z⟩
      · rw [h, upd_same]
        intro z
        cases z
      · match i, h with
        | 1, h =>
          cases h
          exact ⟨.ref ps, rfl, by simp only [Rep]⟩
        | i + 2, h => exact (no_im (n := 12) h).elim
      · rw [upd_ne hplps, upd_same]
    refine post_of e1 ?_
    intro σ2 H2 g2 n2 R2
    obtain ⟨o2, hs2, v, rfl, r2⟩ := slot_get R2 (i := 2) rfl
    obtain ⟨o1, hs1, v1, rfl, r1⟩ := slot_get R2 (i := 1) rfl
    simp only [Rep] at r1
    subst r1
    refine ⟨v, hs2, fun x dx hx hdx hne => ?_⟩
    have n0 := no_own (ρ := ρ2 ⟨ps, pl, ns⟩ d) (σ := σ2) rfl
    have hM : ∀ a, MO (fun a => a = ps) (ρ2 ⟨ps, pl, ns⟩ d) σ2 a → a = ps := fun a h => h.elim id fun z => (n0 a z).elim
    have k2 : ∀ {a o}, H2 a = some o → (upd (upd H2 dx (.own x)) x (.ins Cg dx [])) a = some o := fun {a o} e => by
      rw [upd_ne (ne_of_none e hx), upd_ne (ne_of_none e hdx)]
      exact e
    obtain ⟨w1, w2, w3⟩ := R2.world
    have hpx : ps ≠ x := ne_of_none w1 hx
    refine ⟨x, dx, v, fun a => a = ps ∨ a = x, d, rfl, upd_same, .inr rfl, fun a h => ?_, r2.step (fun a o _ e => k2 e) (fun a h => ?_), hm, fun pp H' hpp kp gr => ⟨rfl, ?_⟩⟩
    · rcases h with h | h
      · rw [h, k2 w1]
        intro z
        cases z
      · rw [h, upd_same]
        intro z
        cases z
    · rcases h with h | h
      · exact .inl (.inl h)
      · exact .inr (by rw [h]; exact hx)
    · have hpp2 : H2 pp = none := by
        cases h : H2 pp with
        | none => rfl
        | some o =>
          rw [k2 h] at hpp
          cases hpp
      have kk : ∀ {a o}, H2 a = some o → H' a = some o := fun {a o} e => kp a o (ne_of_none e hx) (k2 e)
      have hppp : ps ≠ pp := ne_of_none w1 hpp2
      have hx' : H' x ≠ none := by
        obtain ⟨dx', vf, vc, vs, k1, _⟩ := gr
        have k1' : H' x = _ := k1
        rw [k1']
        intro z
        cases z
      have hpp' : H' pp ≠ none := by
        obtain ⟨dx', vf, vc, vs, _, _, k1, _⟩ := gr
        have k1' : H' pp = _ := k1
        rw [k1']
        intro z
        cases z
      have mm : ∀ a, ((a = ps ∨ a = x) ∨ a = pp) → MO (fun a => a = ps) (ρ2 ⟨ps, pl, ns⟩ d) σ2 a ∨ H2 a = none := fun a h => by
        rcases h with (h | h) | h
        · exact .inl (.inl h)
        · exact .inr (by rw [h]; exact hx)
        · exact .inr (by rw [h]; exact hpp2)
      refine ⟨⟨⟨ps, pl, ns⟩, ⟨Cg, x, pp, d⟩, hpx, hppp⟩, rfl, fun a => (a = ps ∨ a = x) ∨ a = pp, ρ3 ⟨ps, pl, ns⟩ d x, (s1, gInit d), ?_, ?_⟩
      · refine rel_plain ?_ rfl (fun a h => ?_) (fun a h => ?_) (fun i d' h => ?_) ⟨?_, gr⟩
        · rw [List.length_set, R2.len]
          rfl
        · rcases h with h | h | h
          · exact .inl (.inl h)
          · exact .inl (.inr h)
          · exact .inr h
        · rcases h with (h | h) | h
          · rw [h, kk w1]
            intro z
            cases z
          · rw [h]
            exact hx'
          · rw [h]
            exact hpp'
        · have hl3 : 3 < σ2.length := by
            rw [R2.len]
            show 3 < 14
            decide
          match i, h with
          | 1, h =>
            cases h
            exact ⟨.ref ps, by rw [List.getElem?_set_ne (by decide)]; exact hs1, by simp only [Rep]⟩
          | 2, h =>
            cases h
            exact ⟨v, by rw [List.getElem?_set_ne (by decide)]; exact hs2, r2.step (fun a o _ e => kk e) mm⟩
          | 3, h =>
            cases h
            exact ⟨.ref x, List.getElem?_set_self hl3, by simp only [Rep]⟩
          | i + 4, h => exact (no_im (n := 10) h).elim
        · exact (SW ⟨ps, pl, ns⟩).grow _ s1 H2 H' (fun a o _ e => kk e) ((SW ⟨ps, pl, ns⟩).more _ _ _ _ mm R2.world)
      · obtain ⟨s', e3⟩ := e2 ⟨⟨ps, pl, ns⟩, ⟨Cg, x, pp, d⟩, hpx, hppp⟩ rfl rfl
        refine post_of e3 ?_
        intro v' H'' g w r
        simp only [Rep] at r
        subst r
        exact q H''
end
end K7
end
section
set_option maxRecDepth 100000
set_option maxHeartbeats 4000000
namespace K7
open PySem L2 K76
section
variable {P : Program} {w : World} {K : PySem.W.Frag} {mg : Str → Option Value} {base : Heap}
theorem sc_is_number_trees : FnScope ["value", "low", "high"] ["value", "low", "high"] (defScope s_is_number_trees) := ⟨rfl, rfl, rfl, by decide +kernel, rfl, by decide +kernel, by decide +kernel⟩
theorem ok_is_number_trees {f : Addr} {fd : FuncData} (D : Def K mg "is_number_trees" "is_number" "is_number" s_is_number_trees f fd) (B : Bis mg) : CalP P w K mg base 1 "is_number_trees" 3 m_is_number_trees := by
  refine calP_mk D (ps := ["value", "low", "high"]) rfl (ok_pure (k := 0) (N := ["value", "low", "high"]) F_is_number_trees rfl D.fn sc_is_number_trees rfl (by decide) fun cdv A outer s H E hr => ?_) (fun _ _ _ _ _ _ us hl => match us, hl with | [_, _, _], _ => rfl)
  exact (xs_one (xs_ret (xe_and (xe_isi B B.int bv_int (xw_n 0)) (xe_and (xe_not (xe_isi B B.bool bv_bool (xw_n 0))) (xe_one (xe_chain c_le c_le (xw_n 1) (xw_n 0) (xw_n 2)))))))

theorem sc_is_arities : FnScope ["value", "arity"] ["value"] (defScope s_is_arities) := ⟨rfl, rfl, rfl, by decide +kernel, rfl, by decide +kernel, by decide +kernel⟩
theorem ok_is_arities {f : Addr} {fd : FuncData} (D : Def K mg "is_arities" "is_arities" "is_arities" s_is_arities f fd) (B : Bis mg) (c_MOST_SYMBOLS : ∃ t, mg "MOST_SYMBOLS" = some (.int 4 t)) (c_MOST_ARITY : ∃ t, mg "MOST_ARITY" = some (.int 2 t)) (C_is_number_trees : CalP P w K mg base 1 "is_number_trees" 3 m_is_number_trees) : CalP P w K mg base 2 "is_arities" 1 m_is_arities := by
  refine calP_mk D (ps := ["value"]) rfl (ok_pure (k := 1) (N := ["value", "arity"]) F_is_arities rfl D.fn sc_is_arities rfl (by decide) fun cdv A outer s H E hr => ?_) (fun _ _ _ _ _ _ us hl => match us, hl with | [_], _ => rfl)
  exact (xs_cons (xs_if (XB.t (xb_or (xt_not (xt_truth (XE.w (xe_isi B B.tuple bv_tuple (xw_n 0))))) (xb_or1 (xt_not (xt_chain c_le c_le (XE.w xe_int) (XE.w (xe_len B (xw_n 0))) (XE.w (xe_gint c_MOST_SYMBOLS))))))) (xs_one (xs_ret xe_bl)) xs_nil)
  (xs_one (xs_ret (xe_all rfl B (XE.w (xe_lc (own := [("arity", 1)]) rfl sc_is_arities.nd (xi_seqW (xw_n 0)) (blkOk_by (by kernel_rfl)) (fun _ _ _ _ _ => (xg_n 1 sc_is_arities.nd)) (fun _ _ _ _ _ => xts_nil) (fun _ _ _ _ _ => (xe_call C_is_number_trees (hr.mono (by decide)) (xa_cons (xe_n 1) (xa_cons xe_int (xa_cons (xe_gint c_MOST_ARITY) xa_nil)))))))))))

theorem sc_is_tree : FnScope ["arities", "value", "waiting", "many", "node"] ["arities", "value"] (defScope s_is_tree) := ⟨rfl, rfl, rfl, by decide +kernel, rfl, by decide +kernel, by decide +kernel⟩
theorem ok_is_tree {f : Addr} {fd : FuncData} (D : Def K mg "is_tree" "is_tree" "is_tree" s_is_tree f fd) (B : Bis mg) (c_MOST_NODES_trees : ∃ t, mg "MOST_NODES_trees" = some (.int 15 t)) (C_is_number_trees : CalP P w K mg base 1 "is_number_trees" 3 m_is_number_trees) : CalP P w K mg base 2 "is_tree" 2 m_is_tree := by
  refine calP_mk D (ps := ["arities", "value"]) rfl (ok_pure (k := 1) (N := ["arities", "value", "waiting", "many", "node"]) F_is_tree rfl D.fn sc_is_tree rfl (by decide) fun cdv A outer s H E hr => ?_) (fun _ _ _ _ _ _ us hl => match us, hl with | [_, _], _ => rfl)
  exact (xs_cons (xs_own 2 sc_is_tree.nd (xa_cons (xe_n 1) xa_nil))
  (xs_cons (xs_set 3 sc_is_tree.nd xe_int)
  (xs_cons (xs_while 20 PassesOwn.never (xt_cmp c_gt (XE.w (xe_len B (xw_n 2))) (XE.w xe_int)) (xs_cons (xs_pop 2 (xg_n 4 sc_is_tree.nd))
  (xs_cons (xs_set 3 sc_is_tree.nd (xe_add (xw_n 3) (XE.w xe_int)))
  (xs_cons (xs_if (XB.t (xb_or (xt_cmp c_gt (xw_n 3) (XE.w (xe_gint c_MOST_NODES_trees))) (xb_or (xt_not (xt_truth (XE.w (xe_isi B B.tuple bv_tuple (xw_n 4))))) (xb_or1 (xt_cmp (c_eq (by exact hr.units)) (XE.w (xe_len B (xw_n 4))) (XE.w xe_int)))))) (xs_one (xs_ret xe_bl)) xs_nil)
  (xs_cons (xs_if (XB.t (xb_or (xt_not (xt_truth (XE.w (xe_call C_is_number_trees (hr.mono (by decide)) (xa_cons (xe_ix (xw_n 4) (XE.w xe_int)) (xa_cons xe_int (xa_cons (xe_sub (XE.w (xe_len B (xw_n 0))) (XE.w xe_int)) xa_nil))))))) (xb_or1 (xt_cmp (c_ne (by exact hr.units)) (XE.w (xe_len B (xw_n 4))) (XE.w (xe_add (XE.w xe_int) (XE.w (xe_ix (xw_n 0) (XE.w (xe_ix (xw_n 4) (XE.w xe_int))))))))))) (xs_one (xs_ret xe_bl)) xs_nil)
  (xs_one (xs_ext 2 (xe_sl (xw_n 4) (xo_some (XE.w xe_int)) xo_no))))))))
  (xs_one (xs_ret xe_bl)))))

theorem sc_size_of : FnScope ["tree", "child"] ["tree"] (defScope s_size_of) := ⟨rfl, rfl, rfl, by decide +kernel, rfl, by decide +kernel, by decide +kernel⟩
theorem ok_size_of {f : Addr} {fd : FuncData} (D : Def K mg "size_of" "size_of" "size_of" s_size_of f fd) (B : Bis mg) : ∀ j, CalP P w K mg base (0 + j) "size_of" 1 (m_size_of j)
  | 0 => calP_zero D (ps := ["tree"]) rfl (fun _ _ _ _ _ _ us hl => match us, hl with | [_], _ => rfl)
  | j + 1 => by
    have ih := ok_size_of D B j
    refine calP_mk D (ps := ["tree"]) rfl (ok_pure (N := ["tree", "child"]) (F_size_of (m_size_of j)) rfl D.fn sc_size_of rfl (by decide) fun cdv A outer s H E hr => ?_) (fun _ _ _ _ _ _ us hl => match us, hl with | [_], _ => rfl)
    exact (xs_one (xs_ret (xe_add (XE.w xe_int) (XE.w (xe_sum rfl B (XE.w (xe_lc (own := [("child", 1)]) rfl sc_size_of.nd (xi_seqW (XE.w (xe_sl (xw_n 0) (xo_some (XE.w xe_int)) xo_no))) (blkOk_by (by kernel_rfl)) (fun _ _ _ _ _ => (xg_n 1 sc_size_of.nd)) (fun _ _ _ _ _ => xts_nil) (fun _ _ _ _ _ => (xe_call ih hr (xa_cons (xe_n 1) xa_nil))))))))))

theorem sc_part_at : FnScope ["tree", "place", "part", "step"] ["tree", "place"] (defScope s_part_at) := ⟨rfl, rfl, rfl, by decide +kernel, rfl, by decide +kernel, by decide +kernel⟩
theorem ok_part_at {f : Addr} {fd : FuncData} (D : Def K mg "part_at" "part_at" "part_at" s_part_at f fd) (B : Bis mg) : CalP P w K mg base 1 "part_at" 2 m_part_at := by
  refine calP_mk D (ps := ["tree", "place"]) rfl (ok_pure (k := 0) (N := ["tree", "place", "part", "step"]) F_part_at rfl D.fn sc_part_at rfl (by decide) fun cdv A outer s H E hr => ?_) (fun _ _ _ _ _ _ us hl => match us, hl with | [_, _], _ => rfl)
  exact (xs_cons (xs_set 2 sc_part_at.nd (xe_n 0))
  (xs_cons (xs_for PassesOwn.never rfl (xi_seqS (xe_n 1)) (xg_n 3 sc_part_at.nd) (xs_cons (xs_if (xt_cmp c_lt (XE.w (xe_len B (xw_n 2))) (XE.w (xe_add (xw_n 3) (XE.w xe_int)))) (xs_one (xs_ret xe_non)) xs_nil)
  (xs_one (xs_set 2 sc_part_at.nd (xe_ix (xw_n 2) (XE.w (xe_add (xw_n 3) (XE.w xe_int))))))))
  (xs_one (xs_ret (xe_n 2)))))

theorem sc_put_at : FnScope ["tree", "place", "part", "at"] ["tree", "place", "part"] (defScope s_put_at) := ⟨rfl, rfl, rfl, by decide +kernel, rfl, by decide +kernel, by decide +kernel⟩
theorem ok_put_at {f : Addr} {fd : FuncData} (D : Def K mg "put_at" "put_at" "put_at" s_put_at f fd) (B : Bis mg) : ∀ j, CalP P w K mg base (0 + j) "put_at" 3 (m_put_at j)
  | 0 => calP_zero D (ps := ["tree", "place", "part"]) rfl (fun _ _ _ _ _ _ us hl => match us, hl with | [_, _, _], _ => rfl)
  | j + 1 => by
    have ih := ok_put_at D B j
    refine calP_mk D (ps := ["tree", "place", "part"]) rfl (ok_pure (N := ["tree", "place", "part", "at"]) (F_put_at (m_put_at j)) rfl D.fn sc_put_at rfl (by decide) fun cdv A outer s H E hr => ?_) (fun _ _ _ _ _ _ us hl => match us, hl with | [_, _, _], _ => rfl)
    exact (xs_cons (xs_if (xt_cmp (c_eq (by exact hr.units)) (XE.w (xe_len B (xw_n 1))) (XE.w xe_int)) (xs_one (xs_ret (xe_n 2))) xs_nil)
  (xs_cons (xs_set 3 sc_put_at.nd (xe_add (XE.w (xe_ix (xw_n 1) (XE.w xe_int))) (XE.w xe_int)))
  (xs_one (xs_ret (xe_add (XE.w (xe_add (XE.w (xe_sl (xw_n 0) xo_no (xo_some (xw_n 3)))) (XE.w (xe_tup (xa_cons (xe_call ih hr (xa_cons (xe_ix (xw_n 0) (xw_n 3)) (xa_cons (xe_sl (xw_n 1) (xo_some (XE.w xe_int)) xo_no) (xa_cons (xe_n 2) xa_nil)))) xa_nil))))) (XE.w (xe_sl (xw_n 0) (xo_some (XE.w (xe_add (xw_n 3) (XE.w xe_int)))) xo_no)))))))

theorem sc_is_row : FnScope ["value", "arity", "count", "rows", "_", "row", "one"] ["value", "arity", "count"] (defScope s_is_row) := ⟨rfl, rfl, rfl, by decide +kernel, rfl, by decide +kernel, by decide +kernel⟩
theorem ok_is_row {f : Addr} {fd : FuncData} (D : Def K mg "is_row" "is_row" "is_row" s_is_row f fd) (B : Bis mg) (C_is_number_trees : CalP P w K mg base 1 "is_number_trees" 3 m_is_number_trees) : CalP P w K mg base 2 "is_row" 3 m_is_row := by
  refine calP_mk D (ps := ["value", "arity", "count"]) rfl (ok_pure (k := 1) (N := ["value", "arity", "count", "rows", "_", "row", "one"]) F_is_row rfl D.fn sc_is_row rfl (by decide) fun cdv A outer s H E hr => ?_) (fun _ _ _ _ _ _ us hl => match us, hl with | [_, _, _], _ => rfl)
  exact (xs_cons (xs_set 3 sc_is_row.nd (xe_lst (xa_cons (xe_n 0) xa_nil)))
  (xs_cons (xs_for PassesOwn.never rfl (xi_rg1 B (xw_n 1)) (xg_n 4 sc_is_row.nd) (xs_cons (xs_if (xt_not (xt_truth (XE.w (xe_all rfl B (XE.w (xe_lc (own := [("row", 5)]) rfl sc_is_row.nd (xi_seqW (xw_n 3)) (blkOk_by (by kernel_rfl)) (fun _ _ _ _ _ => (xg_n 5 sc_is_row.nd)) (fun _ _ _ _ _ => xts_nil) (fun _ _ _ _ _ => (xe_and (xe_isi B B.tuple bv_tuple (xw_n 5)) (xe_one (xe_cmp (c_eq (by exact hr.units)) (XE.w (xe_len B (xw_n 5))) (xw_n 2))))))))))) (xs_one (xs_ret xe_bl)) xs_nil)
  (xs_one (xs_setLc2 3 (own := [("row", 5), ("one", 6)]) [6] rfl sc_is_row.nd (xi_seqW (xw_n 3)) (blkOk_by (by kernel_rfl)) (fun _ _ _ _ _ => (xg_n 5 sc_is_row.nd)) (fun _ _ _ _ _ => xts_nil) (fun _ _ _ _ _ => (xi_seqS (xe_n 5))) (fun _ _ _ _ _ => (xg_n 6 sc_is_row.nd)) (fun _ _ _ _ _ => xts_nil) (fun _ _ _ _ _ => (xe_n 6))))))
  (xs_one (xs_ret (xe_all rfl B (XE.w (xe_lc (own := [("one", 6)]) rfl sc_is_row.nd (xi_seqW (xw_n 3)) (blkOk_by (by kernel_rfl)) (fun _ _ _ _ _ => (xg_n 6 sc_is_row.nd)) (fun _ _ _ _ _ => xts_nil) (fun _ _ _ _ _ => (xe_call C_is_number_trees (hr.mono (by decide)) (xa_cons (xe_n 6) (xa_cons xe_int (xa_cons (xe_sub (xw_n 2) (XE.w xe_int)) xa_nil))))))))))))

theorem sc_is_automaton : FnScope ["value", "arities", "good", "steps", "one", "row", "arity"] ["value"] (defScope s_is_automaton) := ⟨rfl, rfl, rfl, by decide +kernel, rfl, by decide +kernel, by decide +kernel⟩
theorem ok_is_automaton {f : Addr} {fd : FuncData} (D : Def K mg "is_automaton" "is_automaton" "is_automaton" s_is_automaton f fd) (B : Bis mg) (c_MOST_STATES : ∃ t, mg "MOST_STATES" = some (.int 4 t)) (C_is_arities : CalP P w K mg base 2 "is_arities" 1 m_is_arities) (C_is_row : CalP P w K mg base 2 "is_row" 3 m_is_row) : CalP P w K mg base 3 "is_automaton" 1 m_is_automaton := by
  refine calP_mk D (ps := ["value"]) rfl (ok_pure (k := 2) (N := ["value", "arities", "good", "steps", "one", "row", "arity"]) F_is_automaton rfl D.fn sc_is_automaton rfl (by decide) fun cdv A outer s H E hr => ?_) (fun _ _ _ _ _ _ us hl => match us, hl with | [_], _ => rfl)
  exact (xs_cons (xs_if (XB.t (xb_or (xt_not (xt_truth (XE.w (xe_isi B B.tuple bv_tuple (xw_n 0))))) (xb_or (xt_cmp (c_ne (by exact hr.units)) (XE.w (xe_len B (xw_n 0))) (XE.w xe_int)) (xb_or1 (xt_not (xt_truth (XE.w (xe_call C_is_arities (hr.mono (by decide)) (xa_cons (xe_ix (xw_n 0) (XE.w xe_int)) xa_nil))))))))) (xs_one (xs_ret xe_bl)) xs_nil)
  (xs_cons (xs_asg (xe_n 0) (xg_tup rfl (xgs_cons 1 sc_is_automaton.nd (xgs_cons 2 sc_is_automaton.nd (xgs_cons 3 sc_is_automaton.nd xgs_nil)))))
  (xs_cons (xs_if (XB.t (xb_or (xt_not (xt_truth (XE.w (xe_isi B B.tuple bv_tuple (xw_n 2))))) (xb_or1 (xt_not (xt_chain c_le c_le (XE.w xe_int) (XE.w (xe_len B (xw_n 2))) (XE.w (xe_gint c_MOST_STATES))))))) (xs_one (xs_ret xe_bl)) xs_nil)
  (xs_cons (xs_if (xt_not (xt_truth (XE.w (xe_all rfl B (XE.w (xe_lc (own := [("one", 4)]) rfl sc_is_automaton.nd (xi_seqW (xw_n 2)) (blkOk_by (by kernel_rfl)) (fun _ _ _ _ _ => (xg_n 4 sc_is_automaton.nd)) (fun _ _ _ _ _ => xts_nil) (fun _ _ _ _ _ => (xe_isi B B.bool bv_bool (xw_n 4))))))))) (xs_one (xs_ret xe_bl)) xs_nil)
  (xs_cons (xs_if (XB.t (xb_or (xt_not (xt_truth (XE.w (xe_isi B B.tuple bv_tuple (xw_n 3))))) (xb_or1 (xt_cmp (c_ne (by exact hr.units)) (XE.w (xe_len B (xw_n 3))) (XE.w (xe_len B (xw_n 1))))))) (xs_one (xs_ret xe_bl)) xs_nil)
  (xs_one (xs_ret (xe_all rfl B (XE.w (xe_lc (own := [("row", 5), ("arity", 6)]) rfl sc_is_automaton.nd (xi_zip B (xe_n 3) (xe_n 1)) (blkOk_by (by kernel_rfl)) (fun _ _ _ _ _ => (xg_tup rfl (xgs_cons 5 sc_is_automaton.nd (xgs_cons 6 sc_is_automaton.nd xgs_nil)))) (fun _ _ _ _ _ => xts_nil) (fun _ _ _ _ _ => (xe_call C_is_row (hr.mono (by decide)) (xa_cons (xe_n 5) (xa_cons (xe_n 6) (xa_cons (xe_len B (xw_n 2)) xa_nil)))))))))))))))

theorem sc_next_state : FnScope ["automaton", "symbol", "states", "entry", "own"] ["automaton", "symbol", "states"] (defScope s_next_state) := ⟨rfl, rfl, rfl, by decide +kernel, rfl, by decide +kernel, by decide +kernel⟩
theorem ok_next_state {f : Addr} {fd : FuncData} (D : Def K mg "next_state" "next_state" "next_state" s_next_state f fd) (B : Bis mg) : CalP P w K mg base 1 "next_state" 3 m_next_state := by
  refine calP_mk D (ps := ["automaton", "symbol", "states"]) rfl (ok_pure (k := 0) (N := ["automaton", "symbol", "states", "entry", "own"]) F_next_state rfl D.fn sc_next_state rfl (by decide) fun cdv A outer s H E hr => ?_) (fun _ _ _ _ _ _ us hl => match us, hl with | [_, _, _], _ => rfl)
  exact (xs_cons (xs_set 3 sc_next_state.nd (xe_ix (XE.w (xe_ix (xw_n 0) (XE.w xe_int))) (xw_n 1)))
  (xs_cons (xs_for PassesOwn.never rfl (xi_seqS (xe_n 2)) (xg_n 4 sc_next_state.nd) (xs_one (xs_set 3 sc_next_state.nd (xe_ix (xw_n 3) (xw_n 4)))))
  (xs_one (xs_ret (xe_n 3)))))

theorem sc_state_of : FnScope ["automaton", "tree", "child"] ["automaton", "tree"] (defScope s_state_of) := ⟨rfl, rfl, rfl, by decide +kernel, rfl, by decide +kernel, by decide +kernel⟩
theorem ok_state_of {f : Addr} {fd : FuncData} (D : Def K mg "state_of" "state_of" "state_of" s_state_of f fd) (B : Bis mg) (C_next_state : CalP P w K mg base 1 "next_state" 3 m_next_state) : ∀ j, CalP P w K mg base (1 + j) "state_of" 2 (m_state_of j)
  | 0 => calP_zero D (ps := ["automaton", "tree"]) rfl (fun _ _ _ _ _ _ us hl => match us, hl with | [_, _], _ => rfl)
  | j + 1 => by
    have ih := ok_state_of D B C_next_state j
    refine calP_mk D (ps := ["automaton", "tree"]) rfl (ok_pure (N := ["automaton", "tree", "child"]) (F_state_of (m_state_of j)) rfl D.fn sc_state_of rfl (by decide) fun cdv A outer s H E hr => ?_) (fun _ _ _ _ _ _ us hl => match us, hl with | [_, _], _ => rfl)
    exact (xs_one (xs_ret (xe_call C_next_state (hr.mono (Nat.le_trans (by decide : 1 ≤ 1) (Nat.le_add_right _ j))) (xa_cons (xe_n 0) (xa_cons (xe_ix (xw_n 1) (XE.w xe_int)) (xa_cons (xe_lc (own := [("child", 2)]) rfl sc_state_of.nd (xi_seqW (XE.w (xe_sl (xw_n 1) (xo_some (XE.w xe_int)) xo_no))) (blkOk_by (by kernel_rfl)) (fun _ _ _ _ _ => (xg_n 2 sc_state_of.nd)) (fun _ _ _ _ _ => xts_nil) (fun _ _ _ _ _ => (xe_call ih hr (xa_cons (xe_n 0) (xa_cons (xe_n 2) xa_nil))))) xa_nil))))))

theorem sc_rows_of : FnScope ["known", "arity", "rows", "_", "row", "one"] ["known", "arity"] (defScope s_rows_of) := ⟨rfl, rfl, rfl, by decide +kernel, rfl, by decide +kernel, by decide +kernel⟩
theorem ok_rows_of {f : Addr} {fd : FuncData} (D : Def K mg "rows_of" "rows_of" "rows_of" s_rows_of f fd) (B : Bis mg) : CalP P w K mg base 1 "rows_of" 2 m_rows_of := by
  refine calP_mk D (ps := ["known", "arity"]) rfl (ok_pure (k := 0) (N := ["known", "arity", "rows", "_", "row", "one"]) F_rows_of rfl D.fn sc_rows_of rfl (by decide) fun cdv A outer s H E hr => ?_) (fun _ _ _ _ _ _ us hl => match us, hl with | [_, _], _ => rfl)
  exact (xs_cons (xs_set 2 sc_rows_of.nd (xe_lst (xa_cons (xe_tup xa_nil) xa_nil)))
  (xs_cons (xs_for PassesOwn.never rfl (xi_rg1 B (xw_n 1)) (xg_n 3 sc_rows_of.nd) (xs_one (xs_setLc2 2 (own := [("row", 4), ("one", 5)]) [5] rfl sc_rows_of.nd (xi_seqW (xw_n 2)) (blkOk_by (by kernel_rfl)) (fun _ _ _ _ _ => (xg_n 4 sc_rows_of.nd)) (fun _ _ _ _ _ => xts_nil) (fun _ _ _ _ _ => (xi_seqS (xe_n 0))) (fun _ _ _ _ _ => (xg_n 5 sc_rows_of.nd)) (fun _ _ _ _ _ => xts_nil) (fun _ _ _ _ _ => (xe_add (xw_n 4) (XE.w (xe_tup (xa_cons (xe_n 5) xa_nil))))))))
  (xs_one (xs_ret (xe_n 2)))))

theorem sc_reachable : FnScope ["automaton", "known", "before", "symbol", "arity", "row"] ["automaton"] (defScope s_reachable) := ⟨rfl, rfl, rfl, by decide +kernel, rfl, by decide +kernel, by decide +kernel⟩
theorem ok_reachable {f : Addr} {fd : FuncData} (D : Def K mg "reachable" "reachable" "reachable" s_reachable f fd) (B : Bis mg) (C_rows_of : CalP P w K mg base 1 "rows_of" 2 m_rows_of) (C_next_state : CalP P w K mg base 1 "next_state" 3 m_next_state) : CalP P w K mg base 2 "reachable" 1 m_reachable := by
  refine calP_mk D (ps := ["automaton"]) rfl (ok_pure (k := 1) (N := ["automaton", "known", "before", "symbol", "arity", "row"]) F_reachable rfl D.fn sc_reachable rfl (by decide) fun cdv A outer s H E hr => ?_) (fun _ _ _ _ _ _ us hl => match us, hl with | [_], _ => rfl)
  exact (xs_cons (xs_ownD 1 sc_reachable.nd)
  (xs_cons (xs_set 2 sc_reachable.nd (xe_neg (XE.w xe_int)))
  (xs_cons (xs_while 8 PassesOwn.never (xt_cmp c_gt (XE.w (xe_len B (xw_n 1))) (xw_n 2)) (xs_cons (xs_set 2 sc_reachable.nd (xe_len B (xw_n 1)))
  (xs_one (xs_for PassesOwn.never rfl (xi_enumS B (xe_ix (xw_n 0) (XE.w xe_int))) (xg_tup rfl (xgs_cons 3 sc_reachable.nd (xgs_cons 4 sc_reachable.nd xgs_nil))) (xs_one (xs_for PassesOwn.never rfl (xi_seqS (xe_call C_rows_of (hr.mono (by decide)) (xa_cons (xe_sorted rfl B (xw_n 1)) (xa_cons (xe_n 4) xa_nil)))) (xg_n 5 sc_reachable.nd) (xs_one (xs_putD 1 (hu_of hr) (xe_call C_next_state (hr.mono (by decide)) (xa_cons (xe_n 0) (xa_cons (xe_n 3) (xa_cons (xe_n 5) xa_nil))))))))))))
  (xs_one (xs_ret (xe_tuple B (XE.w (xe_sorted rfl B (xw_n 1)))))))))

theorem sc_is_state : FnScope ["automaton", "value"] ["automaton", "value"] (defScope s_is_state) := ⟨rfl, rfl, rfl, by decide +kernel, rfl, by decide +kernel, by decide +kernel⟩
theorem ok_is_state {f : Addr} {fd : FuncData} (D : Def K mg "is_state" "is_state" "is_state" s_is_state f fd) (B : Bis mg) : CalP P w K mg base 1 "is_state" 2 m_is_state := by
  refine calP_mk D (ps := ["automaton", "value"]) rfl (ok_pure (k := 0) (N := ["automaton", "value"]) F_is_state rfl D.fn sc_is_state rfl (by decide) fun cdv A outer s H E hr => ?_) (fun _ _ _ _ _ _ us hl => match us, hl with | [_, _], _ => rfl)
  exact (xs_one (xs_ret (xe_and (xe_isi B B.int bv_int (xw_n 1)) (xe_and (xe_not (xe_isi B B.bool bv_bool (xw_n 1))) (xe_one (xe_chain c_le c_lt (XE.w xe_int) (xw_n 1) (XE.w (xe_len B (XE.w (xe_ix (xw_n 0) (XE.w xe_int)))))))))))

theorem sc_come : FnScope ["automaton", "symbol", "sets", "rows", "one", "other", "row"] ["automaton", "symbol", "sets"] (defScope s_come) := ⟨rfl, rfl, rfl, by decide +kernel, rfl, by decide +kernel, by decide +kernel⟩
theorem ok_come {f : Addr} {fd : FuncData} (D : Def K mg "come" "come" "come" s_come f fd) (B : Bis mg) (C_next_state : CalP P w K mg base 1 "next_state" 3 m_next_state) : CalP P w K mg base 2 "come" 3 m_come := by
  refine calP_mk D (ps := ["automaton", "symbol", "sets"]) rfl (ok_pure (k := 1) (N := ["automaton", "symbol", "sets", "rows", "one", "other", "row"]) F_come rfl D.fn sc_come rfl (by decide) fun cdv A outer s H E hr => ?_) (fun _ _ _ _ _ _ us hl => match us, hl with | [_, _, _], _ => rfl)
  exact (xs_cons (xs_if (xt_not (xt_truth (xw_n 2))) (xs_one (xs_own 3 sc_come.nd (xa_cons (xe_tup xa_nil) xa_nil))) (xs_one (xs_if (xt_cmp (c_eq (by exact hr.units)) (XE.w (xe_len B (xw_n 2))) (XE.w xe_int)) (xs_one (xs_setLc 3 (own := [("one", 4)]) rfl sc_come.nd (xi_seqW (XE.w (xe_ix (xw_n 2) (XE.w xe_int)))) (blkOk_by (by kernel_rfl)) (fun _ _ _ _ _ => (xg_n 4 sc_come.nd)) (fun _ _ _ _ _ => xts_nil) (fun _ _ _ _ _ => (xe_tup (xa_cons (xe_n 4) xa_nil))))) (xs_cons (xs_own 3 sc_come.nd xa_nil)
  (xs_one (xs_for PassesOwn.never rfl (xi_seqS (xe_ix (xw_n 2) (XE.w xe_int))) (xg_n 4 sc_come.nd) (xs_one (xs_ext 3 (xe_lc (own := [("other", 5)]) rfl sc_come.nd (xi_seqW (XE.w (xe_ix (xw_n 2) (XE.w xe_int)))) (blkOk_by (by kernel_rfl)) (fun _ _ _ _ _ => (xg_n 5 sc_come.nd)) (fun _ _ _ _ _ => xts_nil) (fun _ _ _ _ _ => (xe_tup (xa_cons (xe_n 4) (xa_cons (xe_n 5) xa_nil)))))))))))))
  (xs_one (xs_ret (xe_tuple B (XE.w (xe_sorted rfl B (XE.w (xe_dc (own := [("row", 6)]) rfl sc_come.nd (xi_seqW (xw_n 3)) (blkOk_by (by kernel_rfl)) (fun _ _ _ _ _ => (xg_n 6 sc_come.nd)) (fun _ _ _ _ _ => xts_nil) (fun _ _ _ _ _ => (xe_call C_next_state (hr.mono (by decide)) (xa_cons (xe_n 0) (xa_cons (xe_n 1) (xa_cons (xe_n 6) xa_nil)))))))))))))

theorem sc_seen : FnScope ["automaton", "tree", "depth", "part"] ["automaton", "tree", "depth"] (defScope s_seen) := ⟨rfl, rfl, rfl, by decide +kernel, rfl, by decide +kernel, by decide +kernel⟩
theorem ok_seen {f : Addr} {fd : FuncData} (D : Def K mg "seen" "seen" "seen" s_seen f fd) (B : Bis mg) (C_come : CalP P w K mg base 2 "come" 3 m_come) (C_reachable : CalP P w K mg base 2 "reachable" 1 m_reachable) : ∀ j, CalP P w K mg base (2 + j) "seen" 3 (m_seen j)
  | 0 => calP_zero D (ps := ["automaton", "tree", "depth"]) rfl (fun _ _ _ _ _ _ us hl => match us, hl with | [_, _, _], _ => rfl)
  | j + 1 => by
    have ih := ok_seen D B C_come C_reachable j
    refine calP_mk D (ps := ["automaton", "tree", "depth"]) rfl (ok_pure (N := ["automaton", "tree", "depth", "part"]) (F_seen (m_seen j)) rfl D.fn sc_seen rfl (by decide) fun cdv A outer s H E hr => ?_) (fun _ _ _ _ _ _ us hl => match us, hl with | [_, _, _], _ => rfl)
    exact (xs_cons (xs_if (xt_cmp (c_eq (by exact hr.units)) (xw_n 2) (XE.w xe_int)) (xs_one (xs_ret (xe_tuple B (XE.w (xe_call C_reachable (hr.mono (Nat.le_trans (by decide : 2 ≤ 2) (Nat.le_add_right _ j))) (xa_cons (xe_n 0) xa_nil)))))) xs_nil)
  (xs_one (xs_ret (xe_call C_come (hr.mono (Nat.le_trans (by decide : 2 ≤ 2) (Nat.le_add_right _ j))) (xa_cons (xe_n 0) (xa_cons (xe_ix (xw_n 1) (XE.w xe_int)) (xa_cons (xe_lc (own := [("part", 3)]) rfl sc_seen.nd (xi_seqW (XE.w (xe_sl (xw_n 1) (xo_some (XE.w xe_int)) xo_no))) (blkOk_by (by kernel_rfl)) (fun _ _ _ _ _ => (xg_n 3 sc_seen.nd)) (fun _ _ _ _ _ => xts_nil) (fun _ _ _ _ _ => (xe_call ih hr (xa_cons (xe_n 0) (xa_cons (xe_n 3) (xa_cons (xe_sub (xw_n 2) (XE.w xe_int)) xa_nil)))))) xa_nil)))))))

theorem sc_good_states : FnScope ["automaton", "state"] ["automaton"] (defScope s_good_states) := ⟨rfl, rfl, rfl, by decide +kernel, rfl, by decide +kernel, by decide +kernel⟩
theorem ok_good_states {f : Addr} {fd : FuncData} (D : Def K mg "good_states" "good_states" "good_states" s_good_states f fd) (B : Bis mg) (C_reachable : CalP P w K mg base 2 "reachable" 1 m_reachable) : CalP P w K mg base 3 "good_states" 1 m_good_states := by
  refine calP_mk D (ps := ["automaton"]) rfl (ok_pure (k := 2) (N := ["automaton", "state"]) F_good_states rfl D.fn sc_good_states rfl (by decide) fun cdv A outer s H E hr => ?_) (fun _ _ _ _ _ _ us hl => match us, hl with | [_], _ => rfl)
  exact (xs_one (xs_ret (xe_tuple B (XE.w (xe_lc (own := [("state", 1)]) rfl sc_good_states.nd (xi_seqW (XE.w (xe_call C_reachable (hr.mono (by decide)) (xa_cons (xe_n 0) xa_nil)))) (blkOk_by (by kernel_rfl)) (fun _ _ _ _ _ => (xg_n 1 sc_good_states.nd)) (fun _ _ _ _ _ => (xts_one (xt_truth (XE.w (xe_ix (XE.w (xe_ix (xw_n 0) (XE.w xe_int))) (xw_n 1)))))) (fun _ _ _ _ _ => (xe_n 1)))))))

theorem sc_handed : FnScope ["automaton", "symbol", "goal", "beside", "states", "state", "first", "second", "one", "other"] ["automaton", "symbol", "goal", "beside"] (defScope s_handed) := ⟨rfl, rfl, rfl, by decide +kernel, rfl, by decide +kernel, by decide +kernel⟩
theorem ok_handed {f : Addr} {fd : FuncData} (D : Def K mg "handed" "handed" "handed" s_handed f fd) (B : Bis mg) (C_reachable : CalP P w K mg base 2 "reachable" 1 m_reachable) (C_next_state : CalP P w K mg base 1 "next_state" 3 m_next_state) : CalP P w K mg base 3 "handed" 4 m_handed := by
  refine calP_mk D (ps := ["automaton", "symbol", "goal", "beside"]) rfl (ok_pure (k := 2) (N := ["automaton", "symbol", "goal", "beside", "states", "state", "first", "second", "one", "other"]) F_handed rfl D.fn sc_handed rfl (by decide) fun cdv A outer s H E hr => ?_) (fun _ _ _ _ _ _ us hl => match us, hl with | [_, _, _, _], _ => rfl)
  exact (xs_cons (xs_set 4 sc_handed.nd (xe_call C_reachable (hr.mono (by decide)) (xa_cons (xe_n 0) xa_nil)))
  (xs_cons (xs_if (xt_cmp (c_eq (by exact hr.units)) (XE.w (xe_len B (xw_n 3))) (XE.w xe_int)) (xs_one (xs_ret (xe_lst (xa_cons (xe_tuple B (XE.w (xe_lc (own := [("state", 5)]) rfl sc_handed.nd (xi_seqW (xw_n 4)) (blkOk_by (by kernel_rfl)) (fun _ _ _ _ _ => (xg_n 5 sc_handed.nd)) (fun _ _ _ _ _ => (xts_one (xt_cmp c_in (XE.w (xe_call C_next_state (hr.mono (by decide)) (xa_cons (xe_n 0) (xa_cons (xe_n 1) (xa_cons (xe_tup (xa_cons (xe_n 5) xa_nil)) xa_nil))))) (xw_n 2)))) (fun _ _ _ _ _ => (xe_n 5))))) xa_nil)))) xs_nil)
  (xs_cons (xs_own 6 sc_handed.nd xa_nil)
  (xs_cons (xs_own 7 sc_handed.nd xa_nil)
  (xs_cons (xs_for PassesOwn.never rfl (xi_seqS (xe_n 4)) (xg_n 8 sc_handed.nd) (xs_cons (xs_if (xt_truth (XE.w (xe_any rfl B (XE.w (xe_lc (own := [("other", 9)]) rfl sc_handed.nd (xi_seqW (XE.w (xe_ix (xw_n 3) (XE.w xe_int)))) (blkOk_by (by kernel_rfl)) (fun _ _ _ _ _ => (xg_n 9 sc_handed.nd)) (fun _ _ _ _ _ => xts_nil) (fun _ _ _ _ _ => (xe_cmp c_in (XE.w (xe_call C_next_state (hr.mono (by decide)) (xa_cons (xe_n 0) (xa_cons (xe_n 1) (xa_cons (xe_tup (xa_cons (xe_n 8) (xa_cons (xe_n 9) xa_nil))) xa_nil))))) (xw_n 2)))))))) (xs_one (xs_app 6 (xe_n 8))) xs_nil)
  (xs_one (xs_if (xt_truth (XE.w (xe_any rfl B (XE.w (xe_lc (own := [("other", 9)]) rfl sc_handed.nd (xi_seqW (XE.w (xe_ix (xw_n 3) (XE.w xe_int)))) (blkOk_by (by kernel_rfl)) (fun _ _ _ _ _ => (xg_n 9 sc_handed.nd)) (fun _ _ _ _ _ => xts_nil) (fun _ _ _ _ _ => (xe_cmp c_in (XE.w (xe_call C_next_state (hr.mono (by decide)) (xa_cons (xe_n 0) (xa_cons (xe_n 1) (xa_cons (xe_tup (xa_cons (xe_n 9) (xa_cons (xe_n 8) xa_nil))) xa_nil))))) (xw_n 2)))))))) (xs_one (xs_app 7 (xe_n 8))) xs_nil))))
  (xs_one (xs_ret (xe_lst (xa_cons (xe_tuple B (xw_n 6)) (xa_cons (xe_tuple B (xw_n 7)) xa_nil))))))))))

theorem sc_fails : FnScope ["automaton", "depth", "part", "goal", "state"] ["automaton", "depth", "part", "goal"] (defScope s_fails) := ⟨rfl, rfl, rfl, by decide +kernel, rfl, by decide +kernel, by decide +kernel⟩
theorem ok_fails {f : Addr} {fd : FuncData} (D : Def K mg "fails" "fails" "fails" s_fails f fd) (B : Bis mg) (C_seen : CalP P w K mg base 22 "seen" 3 (m_seen 20)) : CalP P w K mg base 23 "fails" 4 m_fails := by
  refine calP_mk D (ps := ["automaton", "depth", "part", "goal"]) rfl (ok_pure (k := 22) (N := ["automaton", "depth", "part", "goal", "state"]) F_fails rfl D.fn sc_fails rfl (by decide) fun cdv A outer s H E hr => ?_) (fun _ _ _ _ _ _ us hl => match us, hl with | [_, _, _, _], _ => rfl)
  exact (xs_one (xs_ret (xe_not (xe_any rfl B (XE.w (xe_lc (own := [("state", 4)]) rfl sc_fails.nd (xi_seqW (XE.w (xe_call C_seen (hr.mono (by decide)) (xa_cons (xe_n 0) (xa_cons (xe_n 2) (xa_cons (xe_n 1) xa_nil)))))) (blkOk_by (by kernel_rfl)) (fun _ _ _ _ _ => (xg_n 4 sc_fails.nd)) (fun _ _ _ _ _ => xts_nil) (fun _ _ _ _ _ => (xe_cmp c_in (xw_n 4) (xw_n 3)))))))))

theorem sc_along : FnScope ["automaton", "depth", "tree", "found", "waiting", "place", "part", "goal", "sets", "at", "one"] ["automaton", "depth", "tree"] (defScope s_along) := ⟨rfl, rfl, rfl, by decide +kernel, rfl, by decide +kernel, by decide +kernel⟩
theorem ok_along {f : Addr} {fd : FuncData} (D : Def K mg "along" "along" "along" s_along f fd) (B : Bis mg) (C_good_states : CalP P w K mg base 3 "good_states" 1 m_good_states) (C_handed : CalP P w K mg base 3 "handed" 4 m_handed) (C_fails : CalP P w K mg base 23 "fails" 4 m_fails) (C_seen : CalP P w K mg base 22 "seen" 3 (m_seen 20)) : CalP P w K mg base 24 "along" 3 m_along := by
  refine calP_mk D (ps := ["automaton", "depth", "tree"]) rfl (ok_pure (k := 23) (N := ["automaton", "depth", "tree", "found", "waiting", "place", "part", "goal", "sets", "at", "one"]) F_along rfl D.fn sc_along rfl (by decide) fun cdv A outer s H E hr => ?_) (fun _ _ _ _ _ _ us hl => match us, hl with | [_, _, _], _ => rfl)
  exact (xs_cons (xs_own 3 sc_along.nd xa_nil)
  (xs_cons (xs_own 4 sc_along.nd (xa_cons (xe_tup (xa_cons (xe_tup xa_nil) (xa_cons (xe_n 2) (xa_cons (xe_call C_good_states (hr.mono (by decide)) (xa_cons (xe_n 0) xa_nil)) xa_nil)))) xa_nil))
  (xs_cons (xs_while 20 PassesOwn.never (xt_truth (xw_n 4)) (xs_cons (xs_pop 4 (xg_tup rfl (xgs_cons 5 sc_along.nd (xgs_cons 6 sc_along.nd (xgs_cons 7 sc_along.nd xgs_nil)))))
  (xs_cons (xs_app 3 (xe_tup (xa_cons (xe_n 5) (xa_cons (xe_n 6) (xa_cons (xe_n 7) xa_nil)))))
  (xs_one (xs_if (XB.t (xb_and (xt_truth (XE.w (xe_sl (xw_n 6) (xo_some (XE.w xe_int)) xo_no))) (xb_and1 (xt_not (xt_truth (XE.w (xe_call C_fails (hr.mono (by decide)) (xa_cons (xe_n 0) (xa_cons (xe_n 1) (xa_cons (xe_n 6) (xa_cons (xe_n 7) xa_nil))))))))))) (xs_cons (xs_set 8 sc_along.nd (xe_call C_handed (hr.mono (by decide)) (xa_cons (xe_n 0) (xa_cons (xe_ix (xw_n 6) (XE.w xe_int)) (xa_cons (xe_n 7) (xa_cons (xe_lc (own := [("one", 10)]) rfl sc_along.nd (xi_seqW (XE.w (xe_sl (xw_n 6) (xo_some (XE.w xe_int)) xo_no))) (blkOk_by (by kernel_rfl)) (fun _ _ _ _ _ => (xg_n 10 sc_along.nd)) (fun _ _ _ _ _ => xts_nil) (fun _ _ _ _ _ => (xe_call C_seen (hr.mono (by decide)) (xa_cons (xe_n 0) (xa_cons (xe_n 10) (xa_cons (xe_sub (xw_n 1) (XE.w xe_int)) xa_nil)))))) xa_nil))))))
  (xs_one (xs_for PassesOwn.never rfl (xi_seqS (xe_rev (XE.w (xe_lrg rfl B (XE.w (xe_len B (xw_n 8))))))) (xg_n 9 sc_along.nd) (xs_one (xs_app 4 (xe_tup (xa_cons (xe_add (xw_n 5) (XE.w (xe_tup (xa_cons (xe_n 9) xa_nil)))) (xa_cons (xe_ix (xw_n 6) (XE.w (xe_add (xw_n 9) (XE.w xe_int)))) (xa_cons (xe_ix (xw_n 8) (xw_n 9)) xa_nil))))))))) xs_nil)))))
  (xs_one (xs_retO 3)))))

theorem sc_let_in : FnScope ["automaton", "depth", "tree", "place", "part", "goal"] ["automaton", "depth", "tree"] (defScope s_let_in) := ⟨rfl, rfl, rfl, by decide +kernel, rfl, by decide +kernel, by decide +kernel⟩
theorem ok_let_in {f : Addr} {fd : FuncData} (D : Def K mg "let_in_closure" "let_in" "let_in" s_let_in f fd) (B : Bis mg) (C_fails : CalP P w K mg base 23 "fails" 4 m_fails) (C_along : CalP P w K mg base 24 "along" 3 m_along) : CalP P w K mg base 25 "let_in_closure" 3 m_let_in := by
  refine calP_mk D (ps := ["automaton", "depth", "tree"]) rfl (ok_pure (k := 24) (N := ["automaton", "depth", "tree", "place", "part", "goal"]) F_let_in rfl D.fn sc_let_in rfl (by decide) fun cdv A outer s H E hr => ?_) (fun _ _ _ _ _ _ us hl => match us, hl with | [_, _, _], _ => rfl)
  exact (xs_one (xs_ret (xe_not (xe_any rfl B (XE.w (xe_lc (own := [("place", 3), ("part", 4), ("goal", 5)]) rfl sc_let_in.nd (xi_seqW (XE.w (xe_call C_along (hr.mono (by decide)) (xa_cons (xe_n 0) (xa_cons (xe_n 1) (xa_cons (xe_n 2) xa_nil)))))) (blkOk_by (by kernel_rfl)) (fun _ _ _ _ _ => (xg_tup rfl (xgs_cons 3 sc_let_in.nd (xgs_cons 4 sc_let_in.nd (xgs_cons 5 sc_let_in.nd xgs_nil))))) (fun _ _ _ _ _ => xts_nil) (fun _ _ _ _ _ => (xe_call C_fails (hr.mono (by decide)) (xa_cons (xe_n 0) (xa_cons (xe_n 1) (xa_cons (xe_n 4) (xa_cons (xe_n 5) xa_nil))))))))))))

theorem sc_is_number_garden : FnScope ["value", "many"] ["value", "many"] (defScope s_is_number_garden) := ⟨rfl, rfl, rfl, by decide +kernel, rfl, by decide +kernel, by decide +kernel⟩
theorem ok_is_number_garden {f : Addr} {fd : FuncData} (D : Def K mg "is_number_garden" "is_number" "is_number" s_is_number_garden f fd) (B : Bis mg) : CalP P w K mg base 1 "is_number_garden" 2 m_is_number_garden := by
  refine calP_mk D (ps := ["value", "many"]) rfl (ok_pure (k := 0) (N := ["value", "many"]) F_is_number_garden rfl D.fn sc_is_number_garden rfl (by decide) fun cdv A outer s H E hr => ?_) (fun _ _ _ _ _ _ us hl => match us, hl with | [_, _], _ => rfl)
  exact (xs_one (xs_ret (xe_and (xe_isi B B.int bv_int (xw_n 0)) (xe_and (xe_not (xe_isi B B.bool bv_bool (xw_n 0))) (xe_one (xe_chain c_le c_lt (XE.w xe_int) (xw_n 0) (xw_n 1)))))))

theorem sc_is_short_place : FnScope ["value", "one"] ["value"] (defScope s_is_short_place) := ⟨rfl, rfl, rfl, by decide +kernel, rfl, by decide +kernel, by decide +kernel⟩
theorem ok_is_short_place {f : Addr} {fd : FuncData} (D : Def K mg "is_short_place" "is_short_place" "is_short_place" s_is_short_place f fd) (B : Bis mg) (c_MOST_PLACE : ∃ t, mg "MOST_PLACE" = some (.int 14 t)) (C_is_number_garden : CalP P w K mg base 1 "is_number_garden" 2 m_is_number_garden) : CalP P w K mg base 2 "is_short_place" 1 m_is_short_place := by
  refine calP_mk D (ps := ["value"]) rfl (ok_pure (k := 1) (N := ["value", "one"]) F_is_short_place rfl D.fn sc_is_short_place rfl (by decide) fun cdv A outer s H E hr => ?_) (fun _ _ _ _ _ _ us hl => match us, hl with | [_], _ => rfl)
  exact (xs_one (xs_ret (xe_and (xe_isi B B.tuple bv_tuple (xw_n 0)) (xe_and (xe_cmp c_le (XE.w (xe_len B (xw_n 0))) (XE.w (xe_gint c_MOST_PLACE))) (xe_one (xe_all rfl B (XE.w (xe_lc (own := [("one", 1)]) rfl sc_is_short_place.nd (xi_seqW (xw_n 0)) (blkOk_by (by kernel_rfl)) (fun _ _ _ _ _ => (xg_n 1 sc_is_short_place.nd)) (fun _ _ _ _ _ => xts_nil) (fun _ _ _ _ _ => (xe_call C_is_number_garden (hr.mono (by decide)) (xa_cons (xe_n 1) (xa_cons xe_int xa_nil))))))))))))

theorem sc_is_step : FnScope ["value", "automaton", "one"] ["value", "automaton"] (defScope s_is_step) := ⟨rfl, rfl, rfl, by decide +kernel, rfl, by decide +kernel, by decide +kernel⟩
theorem ok_is_step {f : Addr} {fd : FuncData} (D : Def K mg "is_step" "is_step" "is_step" s_is_step f fd) (B : Bis mg) (C_is_state : CalP P w K mg base 1 "is_state" 2 m_is_state) (C_is_number_garden : CalP P w K mg base 1 "is_number_garden" 2 m_is_number_garden) : CalP P w K mg base 2 "is_step" 2 m_is_step := by
  refine calP_mk D (ps := ["value", "automaton"]) rfl (ok_pure (k := 1) (N := ["value", "automaton", "one"]) F_is_step rfl D.fn sc_is_step rfl (by decide) fun cdv A outer s H E hr => ?_) (fun _ _ _ _ _ _ us hl => match us, hl with | [_, _], _ => rfl)
  exact (xs_cons (xs_if (XB.t (xb_or (xt_cmp (c_ne (by exact hr.units)) (XE.w (xe_len B (xw_n 0))) (XE.w xe_int)) (xb_or (xt_not (xt_truth (XE.w (xe_call C_is_number_garden (hr.mono (by decide)) (xa_cons (xe_ix (xw_n 0) (XE.w xe_int)) (xa_cons (xe_len B (XE.w (xe_ix (xw_n 1) (XE.w xe_int)))) xa_nil)))))) (xb_or1 (xt_not (xt_truth (XE.w (xe_isi B B.tuple bv_tuple (XE.w (xe_ix (xw_n 0) (XE.w xe_int))))))))))) (xs_one (xs_ret xe_bl)) xs_nil)
  (xs_cons (xs_if (XB.t (xb_or (xt_cmp (c_ne (by exact hr.units)) (XE.w (xe_len B (XE.w (xe_ix (xw_n 0) (XE.w xe_int))))) (XE.w (xe_ix (XE.w (xe_ix (xw_n 1) (XE.w xe_int))) (XE.w (xe_ix (xw_n 0) (XE.w xe_int)))))) (xb_or1 (xt_not (xt_truth (XE.w (xe_all rfl B (XE.w (xe_lc (own := [("one", 2)]) rfl sc_is_step.nd (xi_seqW (XE.w (xe_ix (xw_n 0) (XE.w xe_int)))) (blkOk_by (by kernel_rfl)) (fun _ _ _ _ _ => (xg_n 2 sc_is_step.nd)) (fun _ _ _ _ _ => xts_nil) (fun _ _ _ _ _ => (xe_call C_is_state (hr.mono (by decide)) (xa_cons (xe_n 1) (xa_cons (xe_n 2) xa_nil))))))))))))) (xs_one (xs_ret xe_bl)) xs_nil)
  (xs_one (xs_ret (xe_call C_is_state (hr.mono (by decide)) (xa_cons (xe_n 1) (xa_cons (xe_ix (xw_n 0) (XE.w xe_int)) xa_nil)))))))

theorem sc_is_swap : FnScope ["value"] ["value"] (defScope s_is_swap) := ⟨rfl, rfl, rfl, by decide +kernel, rfl, by decide +kernel, by decide +kernel⟩
theorem ok_is_swap {f : Addr} {fd : FuncData} (D : Def K mg "is_swap" "is_swap" "is_swap" s_is_swap f fd) (B : Bis mg) (c_MOST_TREES : ∃ t, mg "MOST_TREES" = some (.int 12 t)) (C_is_short_place : CalP P w K mg base 2 "is_short_place" 1 m_is_short_place) (C_is_number_garden : CalP P w K mg base 1 "is_number_garden" 2 m_is_number_garden) : CalP P w K mg base 3 "is_swap" 1 m_is_swap := by
  refine calP_mk D (ps := ["value"]) rfl (ok_pure (k := 2) (N := ["value"]) F_is_swap rfl D.fn sc_is_swap rfl (by decide) fun cdv A outer s H E hr => ?_) (fun _ _ _ _ _ _ us hl => match us, hl with | [_], _ => rfl)
  exact (xs_cons (xs_if (XB.t (xb_or (xt_cmp (c_ne (by exact hr.units)) (XE.w (xe_len B (xw_n 0))) (XE.w xe_int)) (xb_or (xt_not (xt_truth (XE.w (xe_call C_is_number_garden (hr.mono (by decide)) (xa_cons (xe_ix (xw_n 0) (XE.w xe_int)) (xa_cons (xe_gint c_MOST_TREES) xa_nil)))))) (xb_or1 (xt_not (xt_truth (XE.w (xe_call C_is_number_garden (hr.mono (by decide)) (xa_cons (xe_ix (xw_n 0) (XE.w xe_int)) (xa_cons (xe_gint c_MOST_TREES) xa_nil)))))))))) (xs_one (xs_ret xe_bl)) xs_nil)
  (xs_one (xs_ret (xe_and (xe_call C_is_short_place (hr.mono (by decide)) (xa_cons (xe_ix (xw_n 0) (XE.w xe_int)) xa_nil)) (xe_one (xe_call C_is_short_place (hr.mono (by decide)) (xa_cons (xe_ix (xw_n 0) (XE.w xe_int)) xa_nil)))))))

theorem sc_is_command : FnScope ["value", "automaton"] ["value", "automaton"] (defScope s_is_command) := ⟨rfl, rfl, rfl, by decide +kernel, rfl, by decide +kernel, by decide +kernel⟩
theorem ok_is_command {f : Addr} {fd : FuncData} (D : Def K mg "is_command" "is_command" "is_command" s_is_command f fd) (B : Bis mg) (c_MOST_TREES : ∃ t, mg "MOST_TREES" = some (.int 12 t)) (C_is_step : CalP P w K mg base 2 "is_step" 2 m_is_step) (C_is_swap : CalP P w K mg base 3 "is_swap" 1 m_is_swap) (C_is_number_garden : CalP P w K mg base 1 "is_number_garden" 2 m_is_number_garden) (C_is_state : CalP P w K mg base 1 "is_state" 2 m_is_state) (C_is_tree : CalP P w K mg base 2 "is_tree" 2 m_is_tree) : CalP P w K mg base 4 "is_command" 2 m_is_command := by
  refine calP_mk D (ps := ["value", "automaton"]) rfl (ok_pure (k := 3) (N := ["value", "automaton"]) F_is_command rfl D.fn sc_is_command rfl (by decide) fun cdv A outer s H E hr => ?_) (fun _ _ _ _ _ _ us hl => match us, hl with | [_, _], _ => rfl)
  exact (xs_cons (xs_if (XB.t (xb_or (xt_not (xt_truth (XE.w (xe_isi B B.tuple bv_tuple (xw_n 0))))) (xb_or (xt_not (xt_truth (xw_n 0))) (xb_or1 (xt_not (xt_truth (XE.w (xe_isi B B.str bv_str (XE.w (xe_ix (xw_n 0) (XE.w xe_int))))))))))) (xs_one (xs_ret xe_bl)) xs_nil)
  (xs_cons (xs_if (xt_cmp (c_eq (by exact hr.units)) (XE.w (xe_ix (xw_n 0) (XE.w xe_int))) (XE.w xe_str)) (xs_one (xs_ret (xe_call C_is_step (hr.mono (by decide)) (xa_cons (xe_n 0) (xa_cons (xe_n 1) xa_nil))))) xs_nil)
  (xs_cons (xs_if (xt_cmp (c_eq (by exact hr.units)) (XE.w (xe_ix (xw_n 0) (XE.w xe_int))) (XE.w xe_str)) (xs_one (xs_ret (xe_and (xe_cmp (c_eq (by exact hr.units)) (XE.w (xe_len B (xw_n 0))) (XE.w xe_int)) (xe_and (xe_call C_is_state (hr.mono (by decide)) (xa_cons (xe_n 1) (xa_cons (xe_ix (xw_n 0) (XE.w xe_int)) xa_nil))) (xe_one (xe_isi B B.bool bv_bool (XE.w (xe_ix (xw_n 0) (XE.w xe_int))))))))) xs_nil)
  (xs_cons (xs_if (xt_cmp (c_eq (by exact hr.units)) (XE.w (xe_ix (xw_n 0) (XE.w xe_int))) (XE.w xe_str)) (xs_one (xs_ret (xe_and (xe_cmp (c_eq (by exact hr.units)) (XE.w (xe_len B (xw_n 0))) (XE.w xe_int)) (xe_one (xe_call C_is_tree (hr.mono (by decide)) (xa_cons (xe_ix (xw_n 1) (XE.w xe_int)) (xa_cons (xe_ix (xw_n 0) (XE.w xe_int)) xa_nil))))))) xs_nil)
  (xs_cons (xs_if (xt_cmp (c_eq (by exact hr.units)) (XE.w (xe_ix (xw_n 0) (XE.w xe_int))) (XE.w xe_str)) (xs_one (xs_ret (xe_call C_is_swap (hr.mono (by decide)) (xa_cons (xe_n 0) xa_nil)))) xs_nil)
  (xs_one (xs_ret (xe_and (xe_cmp (c_eq (by exact hr.units)) (XE.w (xe_ix (xw_n 0) (XE.w xe_int))) (XE.w xe_str)) (xe_and (xe_cmp (c_eq (by exact hr.units)) (XE.w (xe_len B (xw_n 0))) (XE.w xe_int)) (xe_one (xe_call C_is_number_garden (hr.mono (by decide)) (xa_cons (xe_ix (xw_n 0) (XE.w xe_int)) (xa_cons (xe_gint c_MOST_TREES) xa_nil)))))))))))))

theorem sc_replaced : FnScope ["row", "at", "value"] ["row", "at", "value"] (defScope s_replaced) := ⟨rfl, rfl, rfl, by decide +kernel, rfl, by decide +kernel, by decide +kernel⟩
theorem ok_replaced {f : Addr} {fd : FuncData} (D : Def K mg "replaced" "replaced" "replaced" s_replaced f fd) (B : Bis mg) : CalP P w K mg base 1 "replaced" 3 m_replaced := by
  refine calP_mk D (ps := ["row", "at", "value"]) rfl (ok_pure (k := 0) (N := ["row", "at", "value"]) F_replaced rfl D.fn sc_replaced rfl (by decide) fun cdv A outer s H E hr => ?_) (fun _ _ _ _ _ _ us hl => match us, hl with | [_, _, _], _ => rfl)
  exact (xs_one (xs_ret (xe_add (XE.w (xe_add (XE.w (xe_sl (xw_n 0) xo_no (xo_some (xw_n 1)))) (XE.w (xe_tup (xa_cons (xe_n 2) xa_nil))))) (XE.w (xe_sl (xw_n 0) (xo_some (XE.w (xe_add (xw_n 1) (XE.w xe_int)))) xo_no)))))

theorem sc_entry_with : FnScope ["entry", "states", "state"] ["entry", "states", "state"] (defScope s_entry_with) := ⟨rfl, rfl, rfl, by decide +kernel, rfl, by decide +kernel, by decide +kernel⟩
theorem ok_entry_with {f : Addr} {fd : FuncData} (D : Def K mg "entry_with" "entry_with" "entry_with" s_entry_with f fd) (B : Bis mg) (C_replaced : CalP P w K mg base 1 "replaced" 3 m_replaced) : CalP P w K mg base 2 "entry_with" 3 m_entry_with := by
  refine calP_mk D (ps := ["entry", "states", "state"]) rfl (ok_pure (k := 1) (N := ["entry", "states", "state"]) F_entry_with rfl D.fn sc_entry_with rfl (by decide) fun cdv A outer s H E hr => ?_) (fun _ _ _ _ _ _ us hl => match us, hl with | [_, _, _], _ => rfl)
  exact (xs_cons (xs_if (xt_not (xt_truth (xw_n 1))) (xs_one (xs_ret (xe_n 2))) xs_nil)
  (xs_cons (xs_if (xt_cmp (c_eq (by exact hr.units)) (XE.w (xe_len B (xw_n 1))) (XE.w xe_int)) (xs_one (xs_ret (xe_call C_replaced (hr.mono (by decide)) (xa_cons (xe_n 0) (xa_cons (xe_ix (xw_n 1) (XE.w xe_int)) (xa_cons (xe_n 2) xa_nil)))))) xs_nil)
  (xs_one (xs_ret (xe_call C_replaced (hr.mono (by decide)) (xa_cons (xe_n 0) (xa_cons (xe_ix (xw_n 1) (XE.w xe_int)) (xa_cons (xe_call C_replaced (hr.mono (by decide)) (xa_cons (xe_ix (xw_n 0) (XE.w (xe_ix (xw_n 1) (XE.w xe_int)))) (xa_cons (xe_ix (xw_n 1) (XE.w xe_int)) (xa_cons (xe_n 2) xa_nil)))) xa_nil))))))))

theorem sc_states_in : FnScope ["state", "automaton", "trees", "tree"] ["state"] (defScope s_states_in) := ⟨rfl, rfl, rfl, by decide +kernel, rfl, by decide +kernel, by decide +kernel⟩
theorem ok_states_in {f : Addr} {fd : FuncData} (D : Def K mg "states_in" "states_in" "states_in" s_states_in f fd) (B : Bis mg) (C_state_of : CalP P w K mg base 21 "state_of" 2 (m_state_of 20)) : CalP P w K mg base 22 "states_in" 1 m_states_in := by
  refine calP_mk D (ps := ["state"]) rfl (ok_pure (k := 21) (N := ["state", "automaton", "trees", "tree"]) F_states_in rfl D.fn sc_states_in rfl (by decide) fun cdv A outer s H E hr => ?_) (fun _ _ _ _ _ _ us hl => match us, hl with | [_], _ => rfl)
  exact (xs_cons (xs_asg (xe_n 0) (xg_tup rfl (xgs_cons 1 sc_states_in.nd (xgs_cons 2 sc_states_in.nd xgs_nil))))
  (xs_one (xs_ret (xe_tuple B (XE.w (xe_lc (own := [("tree", 3)]) rfl sc_states_in.nd (xi_seqW (xw_n 2)) (blkOk_by (by kernel_rfl)) (fun _ _ _ _ _ => (xg_n 3 sc_states_in.nd)) (fun _ _ _ _ _ => xts_nil) (fun _ _ _ _ _ => (xe_call C_state_of (hr.mono (by decide)) (xa_cons (xe_n 1) (xa_cons (xe_n 3) xa_nil))))))))))

theorem sc_check_automaton : FnScope ["automaton", "name"] ["automaton", "name"] (defScope s_check_automaton) := ⟨rfl, rfl, rfl, by decide +kernel, rfl, by decide +kernel, by decide +kernel⟩
theorem ok_check_automaton {f : Addr} {fd : FuncData} (D : Def K mg "check_automaton" "check_automaton" "check_automaton" s_check_automaton f fd) (B : Bis mg) (C_is_automaton : CalP P w K mg base 3 "is_automaton" 1 m_is_automaton) : CalP P w K mg base 4 "check_automaton" 2 m_check_automaton := by
  refine calP_mk D (ps := ["automaton", "name"]) rfl (ok_pure (k := 3) (N := ["automaton", "name"]) F_check_automaton rfl D.fn sc_check_automaton rfl (by decide) fun cdv A outer s H E hr => ?_) (fun _ _ _ _ _ _ us hl => match us, hl with | [_, _], _ => rfl)
  exact (xs_one (xs_if (xt_not (xt_truth (XE.w (xe_call C_is_automaton (hr.mono (by decide)) (xa_cons (xe_n 0) xa_nil))))) (xs_one xs_never) xs_nil))

theorem sc_check_depth : FnScope ["depth", "most"] ["depth", "most"] (defScope s_check_depth) := ⟨rfl, rfl, rfl, by decide +kernel, rfl, by decide +kernel, by decide +kernel⟩
theorem ok_check_depth {f : Addr} {fd : FuncData} (D : Def K mg "check_depth" "check_depth" "check_depth" s_check_depth f fd) (B : Bis mg) : CalP P w K mg base 1 "check_depth" 2 m_check_depth := by
  refine calP_mk D (ps := ["depth", "most"]) rfl (ok_pure (k := 0) (N := ["depth", "most"]) F_check_depth rfl D.fn sc_check_depth rfl (by decide) fun cdv A outer s H E hr => ?_) (fun _ _ _ _ _ _ us hl => match us, hl with | [_, _], _ => rfl)
  exact (xs_one (xs_if (XB.t (xb_or (xt_not (xt_truth (XE.w (xe_isi B B.int bv_int (xw_n 0))))) (xb_or (xt_truth (XE.w (xe_isi B B.bool bv_bool (xw_n 0)))) (xb_or1 (xt_not (xt_chain c_le c_le (XE.w xe_int) (xw_n 0) (xw_n 1))))))) (xs_one xs_never) xs_nil))

theorem sc_L_stream : FnScope ["_law_script"] ["_law_script"] (defScope s_L_stream) := ⟨rfl, rfl, rfl, by decide +kernel, rfl, by decide +kernel, by decide +kernel⟩
theorem ok_L_stream {f : Addr} {fd : FuncData} (D : Def K mg "_law_stream" "_law_stream" "_law_stream" s_L_stream f fd) (B : Bis mg) : CalP P w K mg base 1 "_law_stream" 1 m_L_stream := by
  refine calP_mk D (ps := ["_law_script"]) rfl (ok_pure (k := 0) (N := ["_law_script"]) F_L_stream rfl D.fn sc_L_stream rfl (by decide) fun cdv A outer s H E hr => ?_) (fun _ _ _ _ _ _ us hl => match us, hl with | [_], _ => rfl)
  exact (xs_one (xs_ret (xe_lst (xa_cons (xe_list B (xw_n 0)) (xa_cons xe_int (xa_cons xe_int xa_nil))))))

theorem sc_L_is_integer : FnScope ["_law_actual"] ["_law_actual"] (defScope s_L_is_integer) := ⟨rfl, rfl, rfl, by decide +kernel, rfl, by decide +kernel, by decide +kernel⟩
theorem ok_L_is_integer {f : Addr} {fd : FuncData} (D : Def K mg "_law_is_integer" "_law_is_integer" "_law_is_integer" s_L_is_integer f fd) (B : Bis mg) : CalP P w K mg base 1 "_law_is_integer" 1 m_L_is_integer := by
  refine calP_mk D (ps := ["_law_actual"]) rfl (ok_pure (k := 0) (N := ["_law_actual"]) F_L_is_integer rfl D.fn sc_L_is_integer rfl (by decide) fun cdv A outer s H E hr => ?_) (fun _ _ _ _ _ _ us hl => match us, hl with | [_], _ => rfl)
  exact (xs_one (xs_ret (xe_and (xe_isi B B.int bv_int (xw_n 0)) (xe_one (xe_not (xe_isi B B.bool bv_bool (xw_n 0)))))))

theorem sc_L_equal : FnScope ["_law_actual", "_law_due", "_law_at"] ["_law_actual", "_law_due"] (defScope s_L_equal) := ⟨rfl, rfl, rfl, by decide +kernel, rfl, by decide +kernel, by decide +kernel⟩
theorem ok_L_equal {f : Addr} {fd : FuncData} (D : Def K mg "_law_equal" "_law_equal" "_law_equal" s_L_equal f fd) (B : Bis mg) (C_L_is_integer : CalP P w K mg base 1 "_law_is_integer" 1 m_L_is_integer) : ∀ j, CalP P w K mg base (1 + j) "_law_equal" 2 (m_L_equal j)
  | 0 => calP_zero D (ps := ["_law_actual", "_law_due"]) rfl (fun _ _ _ _ _ _ us hl => match us, hl with | [_, _], _ => rfl)
  | j + 1 => by
    have ih := ok_L_equal D B C_L_is_integer j
    refine calP_mk D (ps := ["_law_actual", "_law_due"]) rfl (ok_pure (N := ["_law_actual", "_law_due", "_law_at"]) (F_L_equal (m_L_equal j)) rfl D.fn sc_L_equal rfl (by decide) fun cdv A outer s H E hr => ?_) (fun _ _ _ _ _ _ us hl => match us, hl with | [_, _], _ => rfl)
    exact (xs_cons (xs_if (xt_cmp c_isN (xw_n 1) (XE.w xe_non)) (xs_one (xs_ret (xe_cmp c_isN (xw_n 0) (XE.w xe_non)))) xs_nil)
  (xs_cons (xs_if (xt_truth (XE.w (xe_isi B B.bool bv_bool (xw_n 1)))) (xs_one (xs_ret (xe_and (xe_isi B B.bool bv_bool (xw_n 0)) (xe_one (xe_cmp (c_eq (by exact hr.units)) (xw_n 0) (xw_n 1)))))) xs_nil)
  (xs_cons (xs_if (xt_truth (XE.w (xe_isi B B.int bv_int (xw_n 1)))) (xs_one (xs_ret (xe_and (xe_call C_L_is_integer (hr.mono (Nat.le_trans (by decide : 1 ≤ 1) (Nat.le_add_right _ j))) (xa_cons (xe_n 0) xa_nil)) (xe_one (xe_cmp (c_eq (by exact hr.units)) (xw_n 0) (xw_n 1)))))) xs_nil)
  (xs_cons (xs_if (xt_truth (XE.w (xe_isi B B.str bv_str (xw_n 1)))) (xs_one (xs_ret (xe_and (xe_isi B B.str bv_str (xw_n 0)) (xe_one (xe_cmp (c_eq (by exact hr.units)) (xw_n 0) (xw_n 1)))))) xs_nil)
  (xs_cons (xs_if (XB.t (xb_and (xt_truth (XE.w (xe_isi B B.tuple bv_tuple (xw_n 1)))) (xb_and1 (xt_not (xt_truth (XE.w (xe_isi B B.tuple bv_tuple (xw_n 0)))))))) (xs_one (xs_ret xe_bl)) xs_nil)
  (xs_cons (xs_if (XB.t (xb_and (xt_truth (XE.w (xe_isi B B.list bv_list (xw_n 1)))) (xb_and1 (xt_not (xt_truth (XE.w (xe_isi B B.list bv_list (xw_n 0)))))))) (xs_one (xs_ret xe_bl)) xs_nil)
  (xs_cons (xs_if (xt_cmp (c_ne (by exact hr.units)) (XE.w (xe_len B (xw_n 0))) (XE.w (xe_len B (xw_n 1)))) (xs_one (xs_ret xe_bl)) xs_nil)
  (xs_one (xs_ret (xe_all rfl B (XE.w (xe_lc (own := [("_law_at", 2)]) rfl sc_L_equal.nd (xi_rg1 B (XE.w (xe_len B (xw_n 1)))) (blkOk_by (by kernel_rfl)) (fun _ _ _ _ _ => (xg_n 2 sc_L_equal.nd)) (fun _ _ _ _ _ => xts_nil) (fun _ _ _ _ _ => (xe_call ih hr (xa_cons (xe_ix (xw_n 0) (xw_n 2)) (xa_cons (xe_ix (xw_n 1) (xw_n 2)) xa_nil))))))))))))))))

theorem sc_L_next_state : FnScope ["_law_automaton_here", "_law_symbol", "_law_states_here", "_law_entry_here", "_law_state_here"] ["_law_automaton_here", "_law_symbol", "_law_states_here"] (defScope s_L_next_state) := ⟨rfl, rfl, rfl, by decide +kernel, rfl, by decide +kernel, by decide +kernel⟩
theorem ok_L_next_state {f : Addr} {fd : FuncData} (D : Def K mg "_law_next_state" "_law_next_state" "_law_next_state" s_L_next_state f fd) (B : Bis mg) : CalP P w K mg base 1 "_law_next_state" 3 m_L_next_state := by
  refine calP_mk D (ps := ["_law_automaton_here", "_law_symbol", "_law_states_here"]) rfl (ok_pure (k := 0) (N := ["_law_automaton_here", "_law_symbol", "_law_states_here", "_law_entry_here", "_law_state_here"]) F_L_next_state rfl D.fn sc_L_next_state rfl (by decide) fun cdv A outer s H E hr => ?_) (fun _ _ _ _ _ _ us hl => match us, hl with | [_, _, _], _ => rfl)
  exact (xs_cons (xs_set 3 sc_L_next_state.nd (xe_ix (XE.w (xe_ix (xw_n 0) (XE.w xe_int))) (xw_n 1)))
  (xs_cons (xs_for PassesOwn.never rfl (xi_seqS (xe_n 2)) (xg_n 4 sc_L_next_state.nd) (xs_one (xs_set 3 sc_L_next_state.nd (xe_ix (xw_n 3) (xw_n 4)))))
  (xs_one (xs_ret (xe_n 3)))))

theorem sc_L_state : FnScope ["_law_automaton_here", "_law_tree_here", "_law_part_here"] ["_law_automaton_here", "_law_tree_here"] (defScope s_L_state) := ⟨rfl, rfl, rfl, by decide +kernel, rfl, by decide +kernel, by decide +kernel⟩
theorem ok_L_state {f : Addr} {fd : FuncData} (D : Def K mg "_law_state" "_law_state" "_law_state" s_L_state f fd) (B : Bis mg) (C_L_next_state : CalP P w K mg base 1 "_law_next_state" 3 m_L_next_state) : ∀ j, CalP P w K mg base (1 + j) "_law_state" 2 (m_L_state j)
  | 0 => calP_zero D (ps := ["_law_automaton_here", "_law_tree_here"]) rfl (fun _ _ _ _ _ _ us hl => match us, hl with | [_, _], _ => rfl)
  | j + 1 => by
    have ih := ok_L_state D B C_L_next_state j
    refine calP_mk D (ps := ["_law_automaton_here", "_law_tree_here"]) rfl (ok_pure (N := ["_law_automaton_here", "_law_tree_here", "_law_part_here"]) (F_L_state (m_L_state j)) rfl D.fn sc_L_state rfl (by decide) fun cdv A outer s H E hr => ?_) (fun _ _ _ _ _ _ us hl => match us, hl with | [_, _], _ => rfl)
    exact (xs_one (xs_ret (xe_call C_L_next_state (hr.mono (Nat.le_trans (by decide : 1 ≤ 1) (Nat.le_add_right _ j))) (xa_cons (xe_n 0) (xa_cons (xe_ix (xw_n 1) (XE.w xe_int)) (xa_cons (xe_lc (own := [("_law_part_here", 2)]) rfl sc_L_state.nd (xi_seqW (XE.w (xe_sl (xw_n 1) (xo_some (XE.w xe_int)) xo_no))) (blkOk_by (by kernel_rfl)) (fun _ _ _ _ _ => (xg_n 2 sc_L_state.nd)) (fun _ _ _ _ _ => xts_nil) (fun _ _ _ _ _ => (xe_call ih hr (xa_cons (xe_n 0) (xa_cons (xe_n 2) xa_nil))))) xa_nil))))))

theorem sc_L_symbols : FnScope ["_law_tree_here", "_law_found", "_law_part_here"] ["_law_tree_here"] (defScope s_L_symbols) := ⟨rfl, rfl, rfl, by decide +kernel, rfl, by decide +kernel, by decide +kernel⟩
theorem ok_L_symbols {f : Addr} {fd : FuncData} (D : Def K mg "_law_symbols" "_law_symbols" "_law_symbols" s_L_symbols f fd) (B : Bis mg) : ∀ j, CalP P w K mg base (0 + j) "_law_symbols" 1 (m_L_symbols j)
  | 0 => calP_zero D (ps := ["_law_tree_here"]) rfl (fun _ _ _ _ _ _ us hl => match us, hl with | [_], _ => rfl)
  | j + 1 => by
    have ih := ok_L_symbols D B j
    refine calP_mk D (ps := ["_law_tree_here"]) rfl (ok_pure (N := ["_law_tree_here", "_law_found", "_law_part_here"]) (F_L_symbols (m_L_symbols j)) rfl D.fn sc_L_symbols rfl (by decide) fun cdv A outer s H E hr => ?_) (fun _ _ _ _ _ _ us hl => match us, hl with | [_], _ => rfl)
    exact (xs_cons (xs_set 1 sc_L_symbols.nd (xe_tup (xa_cons (xe_ix (xw_n 0) (XE.w xe_int)) xa_nil)))
  (xs_cons (xs_for PassesOwn.never rfl (xi_seqS (xe_sl (xw_n 0) (xo_some (XE.w xe_int)) xo_no)) (xg_n 2 sc_L_symbols.nd) (xs_one (xs_set 1 sc_L_symbols.nd (xe_add (xw_n 1) (XE.w (xe_call ih hr (xa_cons (xe_n 2) xa_nil)))))))
  (xs_one (xs_ret (xe_n 1)))))

theorem sc_L_size : FnScope ["_law_tree_here"] ["_law_tree_here"] (defScope s_L_size) := ⟨rfl, rfl, rfl, by decide +kernel, rfl, by decide +kernel, by decide +kernel⟩
theorem ok_L_size {f : Addr} {fd : FuncData} (D : Def K mg "_law_size" "_law_size" "_law_size" s_L_size f fd) (B : Bis mg) (C_L_symbols : CalP P w K mg base 40 "_law_symbols" 1 (m_L_symbols 40)) : CalP P w K mg base 41 "_law_size" 1 m_L_size := by
  refine calP_mk D (ps := ["_law_tree_here"]) rfl (ok_pure (k := 40) (N := ["_law_tree_here"]) F_L_size rfl D.fn sc_L_size rfl (by decide) fun cdv A outer s H E hr => ?_) (fun _ _ _ _ _ _ us hl => match us, hl with | [_], _ => rfl)
  exact (xs_one (xs_ret (xe_len B (XE.w (xe_call C_L_symbols (hr.mono (by decide)) (xa_cons (xe_n 0) xa_nil))))))

theorem sc_L_places : FnScope ["_law_tree_here", "_law_found", "_law_at", "_law_place"] ["_law_tree_here"] (defScope s_L_places) := ⟨rfl, rfl, rfl, by decide +kernel, rfl, by decide +kernel, by decide +kernel⟩
theorem ok_L_places {f : Addr} {fd : FuncData} (D : Def K mg "_law_places" "_law_places" "_law_places" s_L_places f fd) (B : Bis mg) : ∀ j, CalP P w K mg base (0 + j) "_law_places" 1 (m_L_places j)
  | 0 => calP_zero D (ps := ["_law_tree_here"]) rfl (fun _ _ _ _ _ _ us hl => match us, hl with | [_], _ => rfl)
  | j + 1 => by
    have ih := ok_L_places D B j
    refine calP_mk D (ps := ["_law_tree_here"]) rfl (ok_pure (N := ["_law_tree_here", "_law_found", "_law_at", "_law_place"]) (F_L_places (m_L_places j)) rfl D.fn sc_L_places rfl (by decide) fun cdv A outer s H E hr => ?_) (fun _ _ _ _ _ _ us hl => match us, hl with | [_], _ => rfl)
    exact (xs_cons (xs_set 1 sc_L_places.nd (xe_lst (xa_cons (xe_tup xa_nil) xa_nil)))
  (xs_cons (xs_for PassesOwn.never rfl (xi_rg2 B (XE.w xe_int) (XE.w (xe_len B (xw_n 0)))) (xg_n 2 sc_L_places.nd) (xs_one (xs_set 1 sc_L_places.nd (xe_add (xw_n 1) (XE.w (xe_lc (own := [("_law_place", 3)]) rfl sc_L_places.nd (xi_seqW (XE.w (xe_call ih hr (xa_cons (xe_ix (xw_n 0) (xw_n 2)) xa_nil)))) (blkOk_by (by kernel_rfl)) (fun _ _ _ _ _ => (xg_n 3 sc_L_places.nd)) (fun _ _ _ _ _ => xts_nil) (fun _ _ _ _ _ => (xe_add (XE.w (xe_tup (xa_cons (xe_sub (xw_n 2) (XE.w xe_int)) xa_nil))) (xw_n 3)))))))))
  (xs_one (xs_ret (xe_n 1)))))

theorem sc_L_part : FnScope ["_law_tree_here", "_law_place", "_law_at"] ["_law_tree_here", "_law_place"] (defScope s_L_part) := ⟨rfl, rfl, rfl, by decide +kernel, rfl, by decide +kernel, by decide +kernel⟩
theorem ok_L_part {f : Addr} {fd : FuncData} (D : Def K mg "_law_part" "_law_part" "_law_part" s_L_part f fd) (B : Bis mg) : CalP P w K mg base 1 "_law_part" 2 m_L_part := by
  refine calP_mk D (ps := ["_law_tree_here", "_law_place"]) rfl (ok_pure (k := 0) (N := ["_law_tree_here", "_law_place", "_law_at"]) F_L_part rfl D.fn sc_L_part rfl (by decide) fun cdv A outer s H E hr => ?_) (fun _ _ _ _ _ _ us hl => match us, hl with | [_, _], _ => rfl)
  exact (xs_cons (xs_for PassesOwn.never rfl (xi_seqS (xe_n 1)) (xg_n 2 sc_L_part.nd) (xs_one (xs_if (xt_cmp c_notN (xw_n 0) (XE.w xe_non)) (xs_one (xs_if (xt_cmp c_lt (XE.w (xe_add (xw_n 2) (XE.w xe_int))) (XE.w (xe_len B (xw_n 0)))) (xs_one (xs_set 0 sc_L_part.nd (xe_ix (xw_n 0) (XE.w (xe_add (xw_n 2) (XE.w xe_int)))))) (xs_one (xs_set 0 sc_L_part.nd xe_non)))) xs_nil)))
  (xs_one (xs_ret (xe_n 0))))

theorem sc_L_put : FnScope ["_law_tree_here", "_law_place", "_law_part_here", "_law_at"] ["_law_tree_here", "_law_place", "_law_part_here"] (defScope s_L_put) := ⟨rfl, rfl, rfl, by decide +kernel, rfl, by decide +kernel, by decide +kernel⟩
theorem ok_L_put {f : Addr} {fd : FuncData} (D : Def K mg "_law_put" "_law_put" "_law_put" s_L_put f fd) (B : Bis mg) : ∀ j, CalP P w K mg base (0 + j) "_law_put" 3 (m_L_put j)
  | 0 => calP_zero D (ps := ["_law_tree_here", "_law_place", "_law_part_here"]) rfl (fun _ _ _ _ _ _ us hl => match us, hl with | [_, _, _], _ => rfl)
  | j + 1 => by
    have ih := ok_L_put D B j
    refine calP_mk D (ps := ["_law_tree_here", "_law_place", "_law_part_here"]) rfl (ok_pure (N := ["_law_tree_here", "_law_place", "_law_part_here", "_law_at"]) (F_L_put (m_L_put j)) rfl D.fn sc_L_put rfl (by decide) fun cdv A outer s H E hr => ?_) (fun _ _ _ _ _ _ us hl => match us, hl with | [_, _, _], _ => rfl)
    exact (xs_cons (xs_if (xt_cmp (c_eq (by exact hr.units)) (xw_n 1) (XE.w (xe_tup xa_nil))) (xs_one (xs_ret (xe_n 2))) xs_nil)
  (xs_cons (xs_set 3 sc_L_put.nd (xe_add (XE.w (xe_ix (xw_n 1) (XE.w xe_int))) (XE.w xe_int)))
  (xs_one (xs_ret (xe_add (XE.w (xe_add (XE.w (xe_sl (xw_n 0) xo_no (xo_some (xw_n 3)))) (XE.w (xe_tup (xa_cons (xe_call ih hr (xa_cons (xe_ix (xw_n 0) (xw_n 3)) (xa_cons (xe_sl (xw_n 1) (xo_some (XE.w xe_int)) xo_no) (xa_cons (xe_n 2) xa_nil)))) xa_nil))))) (XE.w (xe_sl (xw_n 0) (xo_some (XE.w (xe_add (xw_n 3) (XE.w xe_int)))) xo_no)))))))

theorem sc_L_reachable : FnScope ["_law_automaton_here", "_law_found", "_law_turn", "_law_symbol", "_law_arity", "_law_rows", "_law_k", "_law_row", "_law_longer", "_law_state_here"] ["_law_automaton_here"] (defScope s_L_reachable) := ⟨rfl, rfl, rfl, by decide +kernel, rfl, by decide +kernel, by decide +kernel⟩
theorem ok_L_reachable {f : Addr} {fd : FuncData} (D : Def K mg "_law_reachable" "_law_reachable" "_law_reachable" s_L_reachable f fd) (B : Bis mg) (C_L_next_state : CalP P w K mg base 1 "_law_next_state" 3 m_L_next_state) : CalP P w K mg base 2 "_law_reachable" 1 m_L_reachable := by
  refine calP_mk D (ps := ["_law_automaton_here"]) rfl (ok_pure (k := 1) (N := ["_law_automaton_here", "_law_found", "_law_turn", "_law_symbol", "_law_arity", "_law_rows", "_law_k", "_law_row", "_law_longer", "_law_state_here"]) F_L_reachable rfl D.fn sc_L_reachable rfl (by decide) fun cdv A outer s H E hr => ?_) (fun _ _ _ _ _ _ us hl => match us, hl with | [_], _ => rfl)
  exact (xs_cons (xs_own 1 sc_L_reachable.nd xa_nil)
  (xs_cons (xs_for PassesOwn.never rfl (xi_rg1 B (XE.w xe_int)) (xg_n 2 sc_L_reachable.nd) (xs_one (xs_for PassesOwn.never rfl (xi_rg1 B (XE.w (xe_len B (XE.w (xe_ix (xw_n 0) (XE.w xe_int)))))) (xg_n 3 sc_L_reachable.nd) (xs_cons (xs_set 4 sc_L_reachable.nd (xe_ix (XE.w (xe_ix (xw_n 0) (XE.w xe_int))) (xw_n 3)))
  (xs_cons (xs_set 5 sc_L_reachable.nd (xe_lst (xa_cons (xe_tup xa_nil) xa_nil)))
  (xs_cons (xs_for PassesOwn.never rfl (xi_rg1 B (xw_n 4)) (xg_n 6 sc_L_reachable.nd) (xs_cons (xs_set 8 sc_L_reachable.nd (xe_lst xa_nil))
  (xs_cons (xs_for PassesOwn.never rfl (xi_seqS (xe_n 5)) (xg_n 7 sc_L_reachable.nd) (xs_one (xs_set 8 sc_L_reachable.nd (xe_add (xw_n 8) (XE.w (xe_lc (own := [("_law_state_here", 9)]) rfl sc_L_reachable.nd (xi_seqW (xw_n 1)) (blkOk_by (by kernel_rfl)) (fun _ _ _ _ _ => (xg_n 9 sc_L_reachable.nd)) (fun _ _ _ _ _ => xts_nil) (fun _ _ _ _ _ => (xe_add (xw_n 7) (XE.w (xe_tup (xa_cons (xe_n 9) xa_nil)))))))))))
  (xs_one (xs_set 5 sc_L_reachable.nd (xe_n 8))))))
  (xs_one (xs_for PassesOwn.never rfl (xi_seqS (xe_n 5)) (xg_n 7 sc_L_reachable.nd) (xs_cons (xs_set 9 sc_L_reachable.nd (xe_call C_L_next_state (hr.mono (by decide)) (xa_cons (xe_n 0) (xa_cons (xe_n 3) (xa_cons (xe_n 7) xa_nil)))))
  (xs_one (xs_if (xt_cmp c_notIn (xw_n 9) (xw_n 1)) (xs_one (xs_app 1 (xe_n 9))) xs_nil)))))))))))
  (xs_one (xs_ret (xe_tuple B (XE.w (xe_sorted rfl B (xw_n 1))))))))

theorem sc_L_seen : FnScope ["_law_automaton_here", "_law_states_here", "_law_tree_here", "_law_depth", "_law_rows", "_law_part_here", "_law_near", "_law_longer", "_law_row", "_law_state_here", "_law_found"] ["_law_automaton_here", "_law_states_here", "_law_tree_here", "_law_depth"] (defScope s_L_seen) := ⟨rfl, rfl, rfl, by decide +kernel, rfl, by decide +kernel, by decide +kernel⟩
theorem ok_L_seen {f : Addr} {fd : FuncData} (D : Def K mg "_law_seen" "_law_seen" "_law_seen" s_L_seen f fd) (B : Bis mg) (C_L_next_state : CalP P w K mg base 1 "_law_next_state" 3 m_L_next_state) : ∀ j, CalP P w K mg base (1 + j) "_law_seen" 4 (m_L_seen j)
  | 0 => calP_zero D (ps := ["_law_automaton_here", "_law_states_here", "_law_tree_here", "_law_depth"]) rfl (fun _ _ _ _ _ _ us hl => match us, hl with | [_, _, _, _], _ => rfl)
  | j + 1 => by
    have ih := ok_L_seen D B C_L_next_state j
    refine calP_mk D (ps := ["_law_automaton_here", "_law_states_here", "_law_tree_here", "_law_depth"]) rfl (ok_pure (N := ["_law_automaton_here", "_law_states_here", "_law_tree_here", "_law_depth", "_law_rows", "_law_part_here", "_law_near", "_law_longer", "_law_row", "_law_state_here", "_law_found"]) (F_L_seen (m_L_seen j)) rfl D.fn sc_L_seen rfl (by decide) fun cdv A outer s H E hr => ?_) (fun _ _ _ _ _ _ us hl => match us, hl with | [_, _, _, _], _ => rfl)
    exact (xs_cons (xs_if (xt_cmp (c_eq (by exact hr.units)) (xw_n 3) (XE.w xe_int)) (xs_one (xs_ret (xe_n 1))) xs_nil)
  (xs_cons (xs_set 4 sc_L_seen.nd (xe_lst (xa_cons (xe_tup xa_nil) xa_nil)))
  (xs_cons (xs_for PassesOwn.never rfl (xi_seqS (xe_sl (xw_n 2) (xo_some (XE.w xe_int)) xo_no)) (xg_n 5 sc_L_seen.nd) (xs_cons (xs_set 6 sc_L_seen.nd (xe_call ih hr (xa_cons (xe_n 0) (xa_cons (xe_n 1) (xa_cons (xe_n 5) (xa_cons (xe_sub (xw_n 3) (XE.w xe_int)) xa_nil))))))
  (xs_cons (xs_set 7 sc_L_seen.nd (xe_lst xa_nil))
  (xs_cons (xs_for PassesOwn.never rfl (xi_seqS (xe_n 4)) (xg_n 8 sc_L_seen.nd) (xs_one (xs_set 7 sc_L_seen.nd (xe_add (xw_n 7) (XE.w (xe_lc (own := [("_law_state_here", 9)]) rfl sc_L_seen.nd (xi_seqW (xw_n 6)) (blkOk_by (by kernel_rfl)) (fun _ _ _ _ _ => (xg_n 9 sc_L_seen.nd)) (fun _ _ _ _ _ => xts_nil) (fun _ _ _ _ _ => (xe_add (xw_n 8) (XE.w (xe_tup (xa_cons (xe_n 9) xa_nil)))))))))))
  (xs_one (xs_set 4 sc_L_seen.nd (xe_n 7)))))))
  (xs_cons (xs_own 10 sc_L_seen.nd xa_nil)
  (xs_cons (xs_for PassesOwn.never rfl (xi_seqS (xe_n 4)) (xg_n 8 sc_L_seen.nd) (xs_cons (xs_set 9 sc_L_seen.nd (xe_call C_L_next_state (hr.mono (Nat.le_trans (by decide : 1 ≤ 1) (Nat.le_add_right _ j))) (xa_cons (xe_n 0) (xa_cons (xe_ix (xw_n 2) (XE.w xe_int)) (xa_cons (xe_n 8) xa_nil)))))
  (xs_one (xs_if (xt_cmp c_notIn (xw_n 9) (xw_n 10)) (xs_one (xs_app 10 (xe_n 9))) xs_nil))))
  (xs_one (xs_ret (xe_tuple B (XE.w (xe_sorted rfl B (xw_n 10)))))))))))

theorem sc_L_handed : FnScope ["_law_automaton_here", "_law_states_here", "_law_depth", "_law_tree_here", "_law_goal", "_law_at", "_law_found", "_law_state_here", "_law_told_here", "_law_other", "_law_row"] ["_law_automaton_here", "_law_states_here", "_law_depth", "_law_tree_here", "_law_goal", "_law_at"] (defScope s_L_handed) := ⟨rfl, rfl, rfl, by decide +kernel, rfl, by decide +kernel, by decide +kernel⟩
theorem ok_L_handed {f : Addr} {fd : FuncData} (D : Def K mg "_law_handed" "_law_handed" "_law_handed" s_L_handed f fd) (B : Bis mg) (C_L_seen : CalP P w K mg base 21 "_law_seen" 4 (m_L_seen 20)) (C_L_next_state : CalP P w K mg base 1 "_law_next_state" 3 m_L_next_state) : CalP P w K mg base 22 "_law_handed" 6 m_L_handed := by
  refine calP_mk D (ps := ["_law_automaton_here", "_law_states_here", "_law_depth", "_law_tree_here", "_law_goal", "_law_at"]) rfl (ok_pure (k := 21) (N := ["_law_automaton_here", "_law_states_here", "_law_depth", "_law_tree_here", "_law_goal", "_law_at", "_law_found", "_law_state_here", "_law_told_here", "_law_other", "_law_row"]) F_L_handed rfl D.fn sc_L_handed rfl (by decide) fun cdv A outer s H E hr => ?_) (fun _ _ _ _ _ _ us hl => match us, hl with | [_, _, _, _, _, _], _ => rfl)
  exact (xs_cons (xs_own 6 sc_L_handed.nd xa_nil)
  (xs_cons (xs_for PassesOwn.never rfl (xi_seqS (xe_n 1)) (xg_n 7 sc_L_handed.nd) (xs_cons (xs_set 8 sc_L_handed.nd xe_bl)
  (xs_cons (xs_if (xt_cmp (c_eq (by exact hr.units)) (XE.w (xe_len B (xw_n 3))) (XE.w xe_int)) (xs_one (xs_set 8 sc_L_handed.nd (xe_cmp c_in (XE.w (xe_call C_L_next_state (hr.mono (by decide)) (xa_cons (xe_n 0) (xa_cons (xe_ix (xw_n 3) (XE.w xe_int)) (xa_cons (xe_tup (xa_cons (xe_n 7) xa_nil)) xa_nil))))) (xw_n 4)))) (xs_one (xs_for PassesOwn.never rfl (xi_seqS (xe_call C_L_seen (hr.mono (by decide)) (xa_cons (xe_n 0) (xa_cons (xe_n 1) (xa_cons (xe_ix (xw_n 3) (XE.w (xe_sub (XE.w xe_int) (xw_n 5)))) (xa_cons (xe_sub (xw_n 2) (XE.w xe_int)) xa_nil)))))) (xg_n 9 sc_L_handed.nd) (xs_cons (xs_set 10 sc_L_handed.nd (xe_ix (XE.w (xe_lst (xa_cons (xe_tup (xa_cons (xe_n 7) (xa_cons (xe_n 9) xa_nil))) (xa_cons (xe_tup (xa_cons (xe_n 9) (xa_cons (xe_n 7) xa_nil))) xa_nil)))) (xw_n 5)))
  (xs_one (xs_set 8 sc_L_handed.nd (xe_or (xe_n 8) (xe_one (xe_cmp c_in (XE.w (xe_call C_L_next_state (hr.mono (by decide)) (xa_cons (xe_n 0) (xa_cons (xe_ix (xw_n 3) (XE.w xe_int)) (xa_cons (xe_n 10) xa_nil))))) (xw_n 4))))))))))
  (xs_one (xs_if (xt_truth (xw_n 8)) (xs_one (xs_app 6 (xe_n 7))) xs_nil)))))
  (xs_one (xs_ret (xe_tuple B (xw_n 6))))))

theorem sc_L_sets : FnScope ["_law_automaton_here", "_law_states_here", "_law_depth", "_law_tree_here", "_law_goal", "_law_found", "_law_at", "_law_inner", "_law_state_here", "_law_place", "_law_one"] ["_law_automaton_here", "_law_states_here", "_law_depth", "_law_tree_here", "_law_goal"] (defScope s_L_sets) := ⟨rfl, rfl, rfl, by decide +kernel, rfl, by decide +kernel, by decide +kernel⟩
theorem ok_L_sets {f : Addr} {fd : FuncData} (D : Def K mg "_law_sets" "_law_sets" "_law_sets" s_L_sets f fd) (B : Bis mg) (C_L_seen : CalP P w K mg base 21 "_law_seen" 4 (m_L_seen 20)) (C_L_handed : CalP P w K mg base 22 "_law_handed" 6 m_L_handed) : ∀ j, CalP P w K mg base (22 + j) "_law_sets" 5 (m_L_sets j)
  | 0 => calP_zero D (ps := ["_law_automaton_here", "_law_states_here", "_law_depth", "_law_tree_here", "_law_goal"]) rfl (fun _ _ _ _ _ _ us hl => match us, hl with | [_, _, _, _, _], _ => rfl)
  | j + 1 => by
    have ih := ok_L_sets D B C_L_seen C_L_handed j
    refine calP_mk D (ps := ["_law_automaton_here", "_law_states_here", "_law_depth", "_law_tree_here", "_law_goal"]) rfl (ok_pure (N := ["_law_automaton_here", "_law_states_here", "_law_depth", "_law_tree_here", "_law_goal", "_law_found", "_law_at", "_law_inner", "_law_state_here", "_law_place", "_law_one"]) (F_L_sets (m_L_sets j)) rfl D.fn sc_L_sets rfl (by decide) fun cdv A outer s H E hr => ?_) (fun _ _ _ _ _ _ us hl => match us, hl with | [_, _, _, _, _], _ => rfl)
    exact (xs_cons (xs_set 5 sc_L_sets.nd (xe_lst (xa_cons (xe_tup (xa_cons (xe_tup xa_nil) (xa_cons (xe_n 4) xa_nil))) xa_nil)))
  (xs_cons (xs_if (xt_truth (XE.w (xe_any rfl B (XE.w (xe_lc (own := [("_law_state_here", 8)]) rfl sc_L_sets.nd (xi_seqW (XE.w (xe_call C_L_seen (hr.mono (Nat.le_trans (by decide : 21 ≤ 22) (Nat.le_add_right _ j))) (xa_cons (xe_n 0) (xa_cons (xe_n 1) (xa_cons (xe_n 3) (xa_cons (xe_n 2) xa_nil))))))) (blkOk_by (by kernel_rfl)) (fun _ _ _ _ _ => (xg_n 8 sc_L_sets.nd)) (fun _ _ _ _ _ => xts_nil) (fun _ _ _ _ _ => (xe_cmp c_in (xw_n 8) (xw_n 4)))))))) (xs_one (xs_for PassesOwn.never rfl (xi_rg1 B (XE.w (xe_sub (XE.w (xe_len B (xw_n 3))) (XE.w xe_int)))) (xg_n 6 sc_L_sets.nd) (xs_cons (xs_set 7 sc_L_sets.nd (xe_call ih hr (xa_cons (xe_n 0) (xa_cons (xe_n 1) (xa_cons (xe_n 2) (xa_cons (xe_ix (xw_n 3) (XE.w (xe_add (xw_n 6) (XE.w xe_int)))) (xa_cons (xe_call C_L_handed (hr.mono (Nat.le_trans (by decide : 22 ≤ 22) (Nat.le_add_right _ j))) (xa_cons (xe_n 0) (xa_cons (xe_n 1) (xa_cons (xe_n 2) (xa_cons (xe_n 3) (xa_cons (xe_n 4) (xa_cons (xe_n 6) xa_nil))))))) xa_nil)))))))
  (xs_one (xs_set 5 sc_L_sets.nd (xe_add (xw_n 5) (XE.w (xe_lc (own := [("_law_place", 9), ("_law_one", 10)]) rfl sc_L_sets.nd (xi_seqW (xw_n 7)) (blkOk_by (by kernel_rfl)) (fun _ _ _ _ _ => (xg_tup rfl (xgs_cons 9 sc_L_sets.nd (xgs_cons 10 sc_L_sets.nd xgs_nil)))) (fun _ _ _ _ _ => xts_nil) (fun _ _ _ _ _ => (xe_tup (xa_cons (xe_add (XE.w (xe_tup (xa_cons (xe_n 6) xa_nil))) (xw_n 9)) (xa_cons (xe_n 10) xa_nil)))))))))))) xs_nil)
  (xs_one (xs_ret (xe_n 5)))))

theorem sc_L_sets_along : FnScope ["_law_automaton_here", "_law_depth", "_law_tree_here", "_law_states_here", "_law_goal", "_law_state_here"] ["_law_automaton_here", "_law_depth", "_law_tree_here"] (defScope s_L_sets_along) := ⟨rfl, rfl, rfl, by decide +kernel, rfl, by decide +kernel, by decide +kernel⟩
theorem ok_L_sets_along {f : Addr} {fd : FuncData} (D : Def K mg "_law_sets_along" "_law_sets_along" "_law_sets_along" s_L_sets_along f fd) (B : Bis mg) (C_L_reachable : CalP P w K mg base 2 "_law_reachable" 1 m_L_reachable) (C_L_sets : CalP P w K mg base 42 "_law_sets" 5 (m_L_sets 20)) : CalP P w K mg base 43 "_law_sets_along" 3 m_L_sets_along := by
  refine calP_mk D (ps := ["_law_automaton_here", "_law_depth", "_law_tree_here"]) rfl (ok_pure (k := 42) (N := ["_law_automaton_here", "_law_depth", "_law_tree_here", "_law_states_here", "_law_goal", "_law_state_here"]) F_L_sets_along rfl D.fn sc_L_sets_along rfl (by decide) fun cdv A outer s H E hr => ?_) (fun _ _ _ _ _ _ us hl => match us, hl with | [_, _, _], _ => rfl)
  exact (xs_cons (xs_set 3 sc_L_sets_along.nd (xe_call C_L_reachable (hr.mono (by decide)) (xa_cons (xe_n 0) xa_nil)))
  (xs_cons (xs_set 4 sc_L_sets_along.nd (xe_tuple B (XE.w (xe_lc (own := [("_law_state_here", 5)]) rfl sc_L_sets_along.nd (xi_seqW (xw_n 3)) (blkOk_by (by kernel_rfl)) (fun _ _ _ _ _ => (xg_n 5 sc_L_sets_along.nd)) (fun _ _ _ _ _ => (xts_one (xt_truth (XE.w (xe_ix (XE.w (xe_ix (xw_n 0) (XE.w xe_int))) (xw_n 5)))))) (fun _ _ _ _ _ => (xe_n 5))))))
  (xs_one (xs_ret (xe_tuple B (XE.w (xe_call C_L_sets (hr.mono (by decide)) (xa_cons (xe_n 0) (xa_cons (xe_n 3) (xa_cons (xe_n 1) (xa_cons (xe_n 2) (xa_cons (xe_n 4) xa_nil))))))))))))

theorem sc_L_let_in : FnScope ["_law_automaton_here", "_law_depth", "_law_tree_here", "_law_states_here", "_law_place", "_law_goal", "_law_state_here"] ["_law_automaton_here", "_law_depth", "_law_tree_here"] (defScope s_L_let_in) := ⟨rfl, rfl, rfl, by decide +kernel, rfl, by decide +kernel, by decide +kernel⟩
theorem ok_L_let_in {f : Addr} {fd : FuncData} (D : Def K mg "_law_let_in" "_law_let_in" "_law_let_in" s_L_let_in f fd) (B : Bis mg) (C_L_reachable : CalP P w K mg base 2 "_law_reachable" 1 m_L_reachable) (C_L_sets_along : CalP P w K mg base 43 "_law_sets_along" 3 m_L_sets_along) (C_L_seen : CalP P w K mg base 21 "_law_seen" 4 (m_L_seen 20)) (C_L_part : CalP P w K mg base 1 "_law_part" 2 m_L_part) : CalP P w K mg base 44 "_law_let_in" 3 m_L_let_in := by
  refine calP_mk D (ps := ["_law_automaton_here", "_law_depth", "_law_tree_here"]) rfl (ok_pure (k := 43) (N := ["_law_automaton_here", "_law_depth", "_law_tree_here", "_law_states_here", "_law_place", "_law_goal", "_law_state_here"]) F_L_let_in rfl D.fn sc_L_let_in rfl (by decide) fun cdv A outer s H E hr => ?_) (fun _ _ _ _ _ _ us hl => match us, hl with | [_, _, _], _ => rfl)
  exact (xs_cons (xs_set 3 sc_L_let_in.nd (xe_call C_L_reachable (hr.mono (by decide)) (xa_cons (xe_n 0) xa_nil)))
  (xs_cons (xs_for PassesOwn.never rfl (xi_seqS (xe_call C_L_sets_along (hr.mono (by decide)) (xa_cons (xe_n 0) (xa_cons (xe_n 1) (xa_cons (xe_n 2) xa_nil))))) (xg_tup rfl (xgs_cons 4 sc_L_let_in.nd (xgs_cons 5 sc_L_let_in.nd xgs_nil))) (xs_one (xs_if (xt_not (xt_truth (XE.w (xe_any rfl B (XE.w (xe_lc (own := [("_law_state_here", 6)]) rfl sc_L_let_in.nd (xi_seqW (XE.w (xe_call C_L_seen (hr.mono (by decide)) (xa_cons (xe_n 0) (xa_cons (xe_n 3) (xa_cons (xe_call C_L_part (hr.mono (by decide)) (xa_cons (xe_n 2) (xa_cons (xe_n 4) xa_nil))) (xa_cons (xe_n 1) xa_nil))))))) (blkOk_by (by kernel_rfl)) (fun _ _ _ _ _ => (xg_n 6 sc_L_let_in.nd)) (fun _ _ _ _ _ => xts_nil) (fun _ _ _ _ _ => (xe_cmp c_in (xw_n 6) (xw_n 5))))))))) (xs_one (xs_ret xe_bl)) xs_nil)))
  (xs_one (xs_ret xe_bl))))

theorem sc_L_replaced : FnScope ["_law_row", "_law_at", "_law_value"] ["_law_row", "_law_at", "_law_value"] (defScope s_L_replaced) := ⟨rfl, rfl, rfl, by decide +kernel, rfl, by decide +kernel, by decide +kernel⟩
theorem ok_L_replaced {f : Addr} {fd : FuncData} (D : Def K mg "_law_replaced" "_law_replaced" "_law_replaced" s_L_replaced f fd) (B : Bis mg) : CalP P w K mg base 1 "_law_replaced" 3 m_L_replaced := by
  refine calP_mk D (ps := ["_law_row", "_law_at", "_law_value"]) rfl (ok_pure (k := 0) (N := ["_law_row", "_law_at", "_law_value"]) F_L_replaced rfl D.fn sc_L_replaced rfl (by decide) fun cdv A outer s H E hr => ?_) (fun _ _ _ _ _ _ us hl => match us, hl with | [_, _, _], _ => rfl)
  exact (xs_one (xs_ret (xe_add (XE.w (xe_add (XE.w (xe_sl (xw_n 0) xo_no (xo_some (xw_n 1)))) (XE.w (xe_tup (xa_cons (xe_n 2) xa_nil))))) (XE.w (xe_sl (xw_n 0) (xo_some (XE.w (xe_add (xw_n 1) (XE.w xe_int)))) xo_no)))))

theorem sc_L_swapped : FnScope ["_law_trees", "_law_command_here", "_law_word", "_law_one", "_law_place", "_law_other", "_law_later", "_law_part_here", "_law_found"] ["_law_trees", "_law_command_here"] (defScope s_L_swapped) := ⟨rfl, rfl, rfl, by decide +kernel, rfl, by decide +kernel, by decide +kernel⟩
theorem ok_L_swapped {f : Addr} {fd : FuncData} (D : Def K mg "_law_swapped" "_law_swapped" "_law_swapped" s_L_swapped f fd) (B : Bis mg) (C_L_part : CalP P w K mg base 1 "_law_part" 2 m_L_part) (C_L_replaced : CalP P w K mg base 1 "_law_replaced" 3 m_L_replaced) (C_L_put : CalP P w K mg base 20 "_law_put" 3 (m_L_put 20)) : CalP P w K mg base 21 "_law_swapped" 2 m_L_swapped := by
  refine calP_mk D (ps := ["_law_trees", "_law_command_here"]) rfl (ok_pure (k := 20) (N := ["_law_trees", "_law_command_here", "_law_word", "_law_one", "_law_place", "_law_other", "_law_later", "_law_part_here", "_law_found"]) F_L_swapped rfl D.fn sc_L_swapped rfl (by decide) fun cdv A outer s H E hr => ?_) (fun _ _ _ _ _ _ us hl => match us, hl with | [_, _], _ => rfl)
  exact (xs_cons (xs_asg (xe_n 1) (xg_tup rfl (xgs_cons 2 sc_L_swapped.nd (xgs_cons 3 sc_L_swapped.nd (xgs_cons 4 sc_L_swapped.nd (xgs_cons 5 sc_L_swapped.nd (xgs_cons 6 sc_L_swapped.nd xgs_nil)))))))
  (xs_cons (xs_set 7 sc_L_swapped.nd (xe_call C_L_part (hr.mono (by decide)) (xa_cons (xe_ix (xw_n 0) (xw_n 3)) (xa_cons (xe_n 4) xa_nil))))
  (xs_cons (xs_set 8 sc_L_swapped.nd (xe_call C_L_replaced (hr.mono (by decide)) (xa_cons (xe_n 0) (xa_cons (xe_n 3) (xa_cons (xe_call C_L_put (hr.mono (by decide)) (xa_cons (xe_ix (xw_n 0) (xw_n 3)) (xa_cons (xe_n 4) (xa_cons (xe_call C_L_part (hr.mono (by decide)) (xa_cons (xe_ix (xw_n 0) (xw_n 5)) (xa_cons (xe_n 6) xa_nil))) xa_nil)))) xa_nil)))))
  (xs_one (xs_ret (xe_call C_L_replaced (hr.mono (by decide)) (xa_cons (xe_n 8) (xa_cons (xe_n 5) (xa_cons (xe_call C_L_put (hr.mono (by decide)) (xa_cons (xe_ix (xw_n 8) (xw_n 5)) (xa_cons (xe_n 6) (xa_cons (xe_n 7) xa_nil)))) xa_nil)))))))))

theorem sc_L_why_not : FnScope ["_law_trees", "_law_command_here", "_law_many", "_law_word", "_law_one", "_law_place", "_law_other", "_law_later", "_law_found"] ["_law_trees", "_law_command_here"] (defScope s_L_why_not) := ⟨rfl, rfl, rfl, by decide +kernel, rfl, by decide +kernel, by decide +kernel⟩
theorem ok_L_why_not {f : Addr} {fd : FuncData} (D : Def K mg "_law_why_not" "_law_why_not" "_law_why_not" s_L_why_not f fd) (B : Bis mg) (C_L_swapped : CalP P w K mg base 21 "_law_swapped" 2 m_L_swapped) (C_L_part : CalP P w K mg base 1 "_law_part" 2 m_L_part) (C_L_size : CalP P w K mg base 41 "_law_size" 1 m_L_size) : CalP P w K mg base 42 "_law_why_not" 2 m_L_why_not := by
  refine calP_mk D (ps := ["_law_trees", "_law_command_here"]) rfl (ok_pure (k := 41) (N := ["_law_trees", "_law_command_here", "_law_many", "_law_word", "_law_one", "_law_place", "_law_other", "_law_later", "_law_found"]) F_L_why_not rfl D.fn sc_L_why_not rfl (by decide) fun cdv A outer s H E hr => ?_) (fun _ _ _ _ _ _ us hl => match us, hl with | [_, _], _ => rfl)
  exact (xs_cons (xs_set 2 sc_L_why_not.nd (xe_len B (xw_n 0)))
  (xs_cons (xs_if (xt_cmp (c_eq (by exact hr.units)) (XE.w (xe_ix (xw_n 1) (XE.w xe_int))) (XE.w xe_str)) (xs_one (xs_ret (xe_ix (XE.w (xe_lst (xa_cons xe_str (xa_cons xe_str xa_nil)))) (XE.w (xe_intc B (XE.w (xe_cmp c_ge (xw_n 2) (XE.w xe_int)))))))) xs_nil)
  (xs_cons (xs_if (xt_cmp (c_eq (by exact hr.units)) (XE.w (xe_ix (xw_n 1) (XE.w xe_int))) (XE.w xe_str)) (xs_one (xs_ret (xe_ix (XE.w (xe_lst (xa_cons xe_str (xa_cons xe_str xa_nil)))) (XE.w (xe_intc B (XE.w (xe_cmp c_ge (XE.w (xe_ix (xw_n 1) (XE.w xe_int))) (xw_n 2)))))))) xs_nil)
  (xs_cons (xs_if (xt_cmp (c_ne (by exact hr.units)) (XE.w (xe_ix (xw_n 1) (XE.w xe_int))) (XE.w xe_str)) (xs_one (xs_ret xe_str)) xs_nil)
  (xs_cons (xs_asg (xe_n 1) (xg_tup rfl (xgs_cons 3 sc_L_why_not.nd (xgs_cons 4 sc_L_why_not.nd (xgs_cons 5 sc_L_why_not.nd (xgs_cons 6 sc_L_why_not.nd (xgs_cons 7 sc_L_why_not.nd xgs_nil)))))))
  (xs_cons (xs_if (XB.t (xb_or (xt_cmp c_ge (xw_n 4) (xw_n 2)) (xb_or1 (xt_cmp c_ge (xw_n 6) (xw_n 2))))) (xs_one (xs_ret xe_str)) xs_nil)
  (xs_cons (xs_if (XB.t (xb_or (xt_cmp c_isN (XE.w (xe_call C_L_part (hr.mono (by decide)) (xa_cons (xe_ix (xw_n 0) (xw_n 4)) (xa_cons (xe_n 5) xa_nil)))) (XE.w xe_non)) (xb_or1 (xt_cmp c_isN (XE.w (xe_call C_L_part (hr.mono (by decide)) (xa_cons (xe_ix (xw_n 0) (xw_n 6)) (xa_cons (xe_n 7) xa_nil)))) (XE.w xe_non))))) (xs_one (xs_ret xe_str)) xs_nil)
  (xs_cons (xs_if (XB.t (xb_and (xt_cmp (c_eq (by exact hr.units)) (xw_n 4) (xw_n 6)) (xb_and1 (XB.t (xb_or (xt_cmp (c_eq (by exact hr.units)) (XE.w (xe_sl (xw_n 5) xo_no (xo_some (XE.w (xe_len B (xw_n 7)))))) (xw_n 7)) (xb_or1 (xt_cmp (c_eq (by exact hr.units)) (XE.w (xe_sl (xw_n 7) xo_no (xo_some (XE.w (xe_len B (xw_n 5)))))) (xw_n 5)))))))) (xs_one (xs_ret xe_str)) xs_nil)
  (xs_cons (xs_set 8 sc_L_why_not.nd (xe_call C_L_swapped (hr.mono (by decide)) (xa_cons (xe_n 0) (xa_cons (xe_n 1) xa_nil))))
  (xs_one (xs_ret (xe_ix (XE.w (xe_lst (xa_cons xe_str (xa_cons xe_str xa_nil)))) (XE.w (xe_intc B (XE.w (xe_cmp c_gt (XE.w (xe_max2 rfl B (XE.w (xe_call C_L_size (hr.mono (by decide)) (xa_cons (xe_ix (xw_n 8) (xw_n 4)) xa_nil))) (XE.w (xe_call C_L_size (hr.mono (by decide)) (xa_cons (xe_ix (xw_n 8) (xw_n 6)) xa_nil))))) (XE.w xe_int)))))))))))))))))

theorem sc_L_entry : FnScope ["_law_entry_here", "_law_states_here", "_law_state_here"] ["_law_entry_here", "_law_states_here", "_law_state_here"] (defScope s_L_entry) := ⟨rfl, rfl, rfl, by decide +kernel, rfl, by decide +kernel, by decide +kernel⟩
theorem ok_L_entry {f : Addr} {fd : FuncData} (D : Def K mg "_law_entry" "_law_entry" "_law_entry" s_L_entry f fd) (B : Bis mg) (C_L_replaced : CalP P w K mg base 1 "_law_replaced" 3 m_L_replaced) : CalP P w K mg base 2 "_law_entry" 3 m_L_entry := by
  refine calP_mk D (ps := ["_law_entry_here", "_law_states_here", "_law_state_here"]) rfl (ok_pure (k := 1) (N := ["_law_entry_here", "_law_states_here", "_law_state_here"]) F_L_entry rfl D.fn sc_L_entry rfl (by decide) fun cdv A outer s H E hr => ?_) (fun _ _ _ _ _ _ us hl => match us, hl with | [_, _, _], _ => rfl)
  exact (xs_cons (xs_if (xt_cmp (c_eq (by exact hr.units)) (xw_n 1) (XE.w (xe_tup xa_nil))) (xs_one (xs_ret (xe_n 2))) xs_nil)
  (xs_cons (xs_if (xt_cmp (c_eq (by exact hr.units)) (XE.w (xe_len B (xw_n 1))) (XE.w xe_int)) (xs_one (xs_ret (xe_call C_L_replaced (hr.mono (by decide)) (xa_cons (xe_n 0) (xa_cons (xe_ix (xw_n 1) (XE.w xe_int)) (xa_cons (xe_n 2) xa_nil)))))) xs_nil)
  (xs_one (xs_ret (xe_call C_L_replaced (hr.mono (by decide)) (xa_cons (xe_n 0) (xa_cons (xe_ix (xw_n 1) (XE.w xe_int)) (xa_cons (xe_call C_L_replaced (hr.mono (by decide)) (xa_cons (xe_ix (xw_n 0) (XE.w (xe_ix (xw_n 1) (XE.w xe_int)))) (xa_cons (xe_ix (xw_n 1) (XE.w xe_int)) (xa_cons (xe_n 2) xa_nil)))) xa_nil))))))))

theorem sc_L_behind : FnScope ["_law_automaton_here", "_law_trees", "_law_command_here", "_law_arities_here", "_law_good", "_law_steps", "_law_entry_here"] ["_law_automaton_here", "_law_trees", "_law_command_here"] (defScope s_L_behind) := ⟨rfl, rfl, rfl, by decide +kernel, rfl, by decide +kernel, by decide +kernel⟩
theorem ok_L_behind {f : Addr} {fd : FuncData} (D : Def K mg "_law_behind" "_law_behind" "_law_behind" s_L_behind f fd) (B : Bis mg) (C_L_entry : CalP P w K mg base 2 "_law_entry" 3 m_L_entry) (C_L_swapped : CalP P w K mg base 21 "_law_swapped" 2 m_L_swapped) (C_L_replaced : CalP P w K mg base 1 "_law_replaced" 3 m_L_replaced) : CalP P w K mg base 22 "_law_behind" 3 m_L_behind := by
  refine calP_mk D (ps := ["_law_automaton_here", "_law_trees", "_law_command_here"]) rfl (ok_pure (k := 21) (N := ["_law_automaton_here", "_law_trees", "_law_command_here", "_law_arities_here", "_law_good", "_law_steps", "_law_entry_here"]) F_L_behind rfl D.fn sc_L_behind rfl (by decide) fun cdv A outer s H E hr => ?_) (fun _ _ _ _ _ _ us hl => match us, hl with | [_, _, _], _ => rfl)
  exact (xs_cons (xs_asg (xe_n 0) (xg_tup rfl (xgs_cons 3 sc_L_behind.nd (xgs_cons 4 sc_L_behind.nd (xgs_cons 5 sc_L_behind.nd xgs_nil)))))
  (xs_cons (xs_if (xt_cmp (c_eq (by exact hr.units)) (XE.w (xe_ix (xw_n 2) (XE.w xe_int))) (XE.w xe_str)) (xs_one (xs_ret (xe_tup (xa_cons (xe_n 0) (xa_cons (xe_add (xw_n 1) (XE.w (xe_tup (xa_cons (xe_ix (xw_n 2) (XE.w xe_int)) xa_nil)))) xa_nil))))) xs_nil)
  (xs_cons (xs_if (xt_cmp (c_eq (by exact hr.units)) (XE.w (xe_ix (xw_n 2) (XE.w xe_int))) (XE.w xe_str)) (xs_one (xs_ret (xe_tup (xa_cons (xe_n 0) (xa_cons (xe_add (XE.w (xe_sl (xw_n 1) xo_no (xo_some (XE.w (xe_ix (xw_n 2) (XE.w xe_int)))))) (XE.w (xe_sl (xw_n 1) (xo_some (XE.w (xe_add (XE.w (xe_ix (xw_n 2) (XE.w xe_int))) (XE.w xe_int)))) xo_no))) xa_nil))))) xs_nil)
  (xs_cons (xs_if (xt_cmp (c_eq (by exact hr.units)) (XE.w (xe_ix (xw_n 2) (XE.w xe_int))) (XE.w xe_str)) (xs_one (xs_ret (xe_tup (xa_cons (xe_n 0) (xa_cons (xe_call C_L_swapped (hr.mono (by decide)) (xa_cons (xe_n 1) (xa_cons (xe_n 2) xa_nil))) xa_nil))))) xs_nil)
  (xs_cons (xs_if (xt_cmp (c_eq (by exact hr.units)) (XE.w (xe_ix (xw_n 2) (XE.w xe_int))) (XE.w xe_str)) (xs_one (xs_ret (xe_tup (xa_cons (xe_tup (xa_cons (xe_n 3) (xa_cons (xe_call C_L_replaced (hr.mono (by decide)) (xa_cons (xe_n 4) (xa_cons (xe_ix (xw_n 2) (XE.w xe_int)) (xa_cons (xe_ix (xw_n 2) (XE.w xe_int)) xa_nil)))) (xa_cons (xe_n 5) xa_nil)))) (xa_cons (xe_n 1) xa_nil))))) xs_nil)
  (xs_cons (xs_set 6 sc_L_behind.nd (xe_call C_L_entry (hr.mono (by decide)) (xa_cons (xe_ix (xw_n 5) (XE.w (xe_ix (xw_n 2) (XE.w xe_int)))) (xa_cons (xe_ix (xw_n 2) (XE.w xe_int)) (xa_cons (xe_ix (xw_n 2) (XE.w xe_int)) xa_nil)))))
  (xs_one (xs_ret (xe_tup (xa_cons (xe_tup (xa_cons (xe_n 3) (xa_cons (xe_n 4) (xa_cons (xe_call C_L_replaced (hr.mono (by decide)) (xa_cons (xe_n 5) (xa_cons (xe_ix (xw_n 2) (XE.w xe_int)) (xa_cons (xe_n 6) xa_nil)))) xa_nil)))) (xa_cons (xe_n 1) xa_nil)))))))))))

theorem sc_L_states : FnScope ["_law_automaton_here", "_law_trees", "_law_tree_here"] ["_law_automaton_here", "_law_trees"] (defScope s_L_states) := ⟨rfl, rfl, rfl, by decide +kernel, rfl, by decide +kernel, by decide +kernel⟩
theorem ok_L_states {f : Addr} {fd : FuncData} (D : Def K mg "_law_states" "_law_states" "_law_states" s_L_states f fd) (B : Bis mg) (C_L_state : CalP P w K mg base 21 "_law_state" 2 (m_L_state 20)) : CalP P w K mg base 22 "_law_states" 2 m_L_states := by
  refine calP_mk D (ps := ["_law_automaton_here", "_law_trees"]) rfl (ok_pure (k := 21) (N := ["_law_automaton_here", "_law_trees", "_law_tree_here"]) F_L_states rfl D.fn sc_L_states rfl (by decide) fun cdv A outer s H E hr => ?_) (fun _ _ _ _ _ _ us hl => match us, hl with | [_, _], _ => rfl)
  exact (xs_one (xs_ret (xe_tuple B (XE.w (xe_lc (own := [("_law_tree_here", 2)]) rfl sc_L_states.nd (xi_seqW (xw_n 1)) (blkOk_by (by kernel_rfl)) (fun _ _ _ _ _ => (xg_n 2 sc_L_states.nd)) (fun _ _ _ _ _ => xts_nil) (fun _ _ _ _ _ => (xe_call C_L_state (hr.mono (by decide)) (xa_cons (xe_n 0) (xa_cons (xe_n 2) xa_nil)))))))))

end
end K7
end
section
set_option maxRecDepth 100000
set_option maxHeartbeats 4000000
namespace K7
open PySem L2 K76
section
variable {P : Program} {w : World} {K : PySem.W.Frag} {mg : Str → Option Value} {base : Heap}
theorem sc_L_next : FnScope ["_law_stream_here", "_law_many", "_law_k", "_law_cell", "_law_digit"] ["_law_stream_here", "_law_many"] (defScope s_L_next) := ⟨rfl, rfl, rfl, by decide +kernel, rfl, by decide +kernel, by decide +kernel⟩
theorem ok_L_next {f : Addr} {fd : FuncData} (D : Def K mg "_law_next" "_law_next" "_law_next" s_L_next f fd) (B : Bis mg) : CalW P w K mg base 1 "_law_next" 2 SW m_L_next := by
  refine calW_mk D (ps := ["_law_stream_here", "_law_many"]) rfl (ok_eff (W := SW) (k := 0) (N := ["_law_stream_here", "_law_many", "_law_k", "_law_cell", "_law_digit"]) F_L_next rfl D.fn sc_L_next rfl (by decide) fun ω cdv A outer s H E hr => ?_) (fun _ _ _ _ _ _ us hl => match us, hl with | [_, _], _ => rfl)
  exact (xs_cons (xs_if (xt_cmp (c_eq (by exact hr.units)) (XE.w (xe_sg (xw_n 0) (XE.w xe_int))) (XE.w xe_int)) (xs_cons (xs_set 2 sc_L_next.nd (xe_sg (xw_n 0) (XE.w xe_int)))
  (xs_cons (xs_set 3 sc_L_next.nd (xe_add (XE.w xe_int) (xw_n 2)))
  (xs_cons (xs_if (xt_cmp c_lt (xw_n 2) (XE.w (xe_len B (XE.w (xe_sg (xw_n 0) (XE.w xe_int)))))) (xs_one (xs_set 3 sc_L_next.nd (xe_abs B (XE.w (xe_ix (XE.w (xe_sg (xw_n 0) (XE.w xe_int))) (xw_n 2)))))) xs_nil)
  (xs_cons (xs_if (xt_cmp c_lt (xw_n 3) (XE.w (xe_pow (XE.w xe_int) (XE.w xe_int)))) (xs_cons (xs_set 3 sc_L_next.nd (xe_mod (XE.w (xe_intc B (XE.w (xe_add (XE.w (xe_add (XE.w (xe_mul (xw_n 3) (XE.w xe_int))) (XE.w (xe_mul (xw_n 2) (XE.w xe_int))))) (XE.w xe_int))))) (XE.w xe_int)))
  (xs_one (xs_set 3 sc_L_next.nd (xe_add (XE.w (xe_mul (XE.w (xe_mod (XE.w (xe_intc B (XE.w (xe_add (XE.w (xe_mul (xw_n 3) (XE.w xe_int))) (XE.w xe_int))))) (XE.w xe_int))) (XE.w xe_int))) (xw_n 3))))) xs_nil)
  (xs_cons (xs_ss (xe_n 3) (xe_n 0))
  (xs_one (xs_ss (xe_add (xw_n 2) (XE.w xe_int)) (xe_n 0)))))))) xs_nil)
  (xs_cons (xs_set 4 sc_L_next.nd (xe_mod (XE.w (xe_intc B (XE.w (xe_sg (xw_n 0) (XE.w xe_int))))) (xw_n 1)))
  (xs_cons (xs_ss (xe_div (XE.w (xe_sg (xw_n 0) (XE.w xe_int))) (xw_n 1)) (xe_n 0))
  (xs_one (xs_ret (xe_n 4))))))

theorem sc_L_arities : FnScope ["_law_stream_here"] ["_law_stream_here"] (defScope s_L_arities) := ⟨rfl, rfl, rfl, by decide +kernel, rfl, by decide +kernel, by decide +kernel⟩
theorem ok_L_arities {f : Addr} {fd : FuncData} (D : Def K mg "_law_arities" "_law_arities" "_law_arities" s_L_arities f fd) (B : Bis mg) (C_L_next : CalW P w K mg base 1 "_law_next" 2 SW m_L_next) : CalW P w K mg base 2 "_law_arities" 1 SW m_L_arities := by
  refine calW_mk D (ps := ["_law_stream_here"]) rfl (ok_eff (W := SW) (k := 1) (N := ["_law_stream_here"]) F_L_arities rfl D.fn sc_L_arities rfl (by decide) fun ω cdv A outer s H E hr => ?_) (fun _ _ _ _ _ _ us hl => match us, hl with | [_], _ => rfl)
  exact (xs_one (xs_ret (xe_ix (XE.w (xe_lst (xa_cons (xe_tup (xa_cons xe_int (xa_cons xe_int (xa_cons xe_int xa_nil)))) (xa_cons (xe_tup (xa_cons xe_int (xa_cons xe_int xa_nil))) (xa_cons (xe_tup (xa_cons xe_int (xa_cons xe_int xa_nil))) (xa_cons (xe_tup (xa_cons xe_int (xa_cons xe_int (xa_cons xe_int xa_nil)))) (xa_cons (xe_tup (xa_cons xe_int (xa_cons xe_int (xa_cons xe_int xa_nil)))) (xa_cons (xe_tup (xa_cons xe_int (xa_cons xe_int xa_nil))) (xa_cons (xe_tup (xa_cons xe_int (xa_cons xe_int (xa_cons xe_int (xa_cons xe_int xa_nil))))) xa_nil))))))))) (XE.w (xe_callW (F := SW) (ω := ω) C_L_next (hr.mono (by decide)) (xa_cons (xe_n 0) (xa_cons xe_int xa_nil)))))))

theorem sc_L_automaton : FnScope ["_law_stream_here", "_law_arities_here", "_law_least", "_law_most", "_law_many", "_law_steps", "_law_arity", "_law_state_here", "_law_other", "_law_good"] ["_law_stream_here", "_law_arities_here", "_law_least", "_law_most"] (defScope s_L_automaton) := ⟨rfl, rfl, rfl, by decide +kernel, rfl, by decide +kernel, by decide +kernel⟩
theorem ok_L_automaton {f : Addr} {fd : FuncData} (D : Def K mg "_law_automaton" "_law_automaton" "_law_automaton" s_L_automaton f fd) (B : Bis mg) (C_L_next : CalW P w K mg base 1 "_law_next" 2 SW m_L_next) : CalW P w K mg base 2 "_law_automaton" 4 SW m_L_automaton := by
  refine calW_mk D (ps := ["_law_stream_here", "_law_arities_here", "_law_least", "_law_most"]) rfl (ok_eff (W := SW) (k := 1) (N := ["_law_stream_here", "_law_arities_here", "_law_least", "_law_most", "_law_many", "_law_steps", "_law_arity", "_law_state_here", "_law_other", "_law_good"]) F_L_automaton rfl D.fn sc_L_automaton rfl (by decide) fun ω cdv A outer s H E hr => ?_) (fun _ _ _ _ _ _ us hl => match us, hl with | [_, _, _, _], _ => rfl)
  exact (xs_cons (xs_set 4 sc_L_automaton.nd (xe_add (xw_n 2) (XE.w (xe_callW (F := SW) (ω := ω) C_L_next (hr.mono (by decide)) (xa_cons (xe_n 0) (xa_cons (xe_add (XE.w (xe_sub (xw_n 3) (xw_n 2))) (XE.w xe_int)) xa_nil))))))
  (xs_cons (xs_own 5 sc_L_automaton.nd xa_nil)
  (xs_cons (xs_for PassesOwn.never rfl (xi_seqS (xe_n 1)) (xg_n 6 sc_L_automaton.nd) (xs_one (xs_if (xt_cmp (c_eq (by exact hr.units)) (xw_n 6) (XE.w xe_int)) (xs_one (xs_app 5 (xe_callW (F := SW) (ω := ω) C_L_next (hr.mono (by decide)) (xa_cons (xe_n 0) (xa_cons (xe_n 4) xa_nil))))) (xs_one (xs_if (xt_cmp (c_eq (by exact hr.units)) (xw_n 6) (XE.w xe_int)) (xs_one (xs_app 5 (xe_tuple B (XE.w (xe_lc (own := [("_law_state_here", 7)]) rfl sc_L_automaton.nd (xi_rg1 B (xw_n 4)) (blkOk_by (by kernel_rfl)) (fun _ _ _ _ _ => (xg_n 7 sc_L_automaton.nd)) (fun _ _ _ _ _ => xts_nil) (fun _ _ _ _ _ => (xe_callW (F := SW) (ω := ω) C_L_next (hr.mono (by decide)) (xa_cons (xe_n 0) (xa_cons (xe_n 4) xa_nil))))))))) (xs_one (xs_app 5 (xe_tuple B (XE.w (xe_lc (own := [("_law_state_here", 7)]) rfl sc_L_automaton.nd (xi_rg1 B (xw_n 4)) (blkOk_by (by kernel_rfl)) (fun _ _ _ _ _ => (xg_n 7 sc_L_automaton.nd)) (fun _ _ _ _ _ => xts_nil) (fun _ _ _ _ _ => (xe_tuple B (XE.w (xe_lc (own := [("_law_other", 8)]) rfl sc_L_automaton.nd (xi_rg1 B (xw_n 4)) (blkOk_by (by kernel_rfl)) (fun _ _ _ _ _ => (xg_n 8 sc_L_automaton.nd)) (fun _ _ _ _ _ => xts_nil) (fun _ _ _ _ _ => (xe_callW (F := SW) (ω := ω) C_L_next (hr.mono (by decide)) (xa_cons (xe_n 0) (xa_cons (xe_n 4) xa_nil))))))))))))))))))
  (xs_cons (xs_set 9 sc_L_automaton.nd (xe_tuple B (XE.w (xe_lc (own := [("_law_state_here", 7)]) rfl sc_L_automaton.nd (xi_rg1 B (xw_n 4)) (blkOk_by (by kernel_rfl)) (fun _ _ _ _ _ => (xg_n 7 sc_L_automaton.nd)) (fun _ _ _ _ _ => xts_nil) (fun _ _ _ _ _ => (xe_cmp (c_eq (by exact hr.units)) (XE.w (xe_callW (F := SW) (ω := ω) C_L_next (hr.mono (by decide)) (xa_cons (xe_n 0) (xa_cons xe_int xa_nil)))) (XE.w xe_int)))))))
  (xs_one (xs_ret (xe_tup (xa_cons (xe_n 1) (xa_cons (xe_n 9) (xa_cons (xe_tuple B (xw_n 5)) xa_nil))))))))))

theorem sc_L_tree : FnScope ["_law_stream_here", "_law_arities_here", "_law_room", "_law_near", "_law_symbol", "_law_share"] ["_law_stream_here", "_law_arities_here", "_law_room"] (defScope s_L_tree) := ⟨rfl, rfl, rfl, by decide +kernel, rfl, by decide +kernel, by decide +kernel⟩
theorem ok_L_tree {f : Addr} {fd : FuncData} (D : Def K mg "_law_tree" "_law_tree" "_law_tree" s_L_tree f fd) (B : Bis mg) (C_L_next : CalW P w K mg base 1 "_law_next" 2 SW m_L_next) : ∀ j, CalW P w K mg base (1 + j) "_law_tree" 3 SW (m_L_tree j)
  | 0 => calW_zero D (ps := ["_law_stream_here", "_law_arities_here", "_law_room"]) rfl (fun _ _ _ _ _ _ us hl => match us, hl with | [_, _, _], _ => rfl)
  | j + 1 => by
    have ih := ok_L_tree D B C_L_next j
    refine calW_mk D (ps := ["_law_stream_here", "_law_arities_here", "_law_room"]) rfl (ok_eff (W := SW) (N := ["_law_stream_here", "_law_arities_here", "_law_room", "_law_near", "_law_symbol", "_law_share"]) (fun ω => F_L_tree ω (m_L_tree j ω)) rfl D.fn sc_L_tree rfl (by decide) fun ω cdv A outer s H E hr => ?_) (fun _ _ _ _ _ _ us hl => match us, hl with | [_, _, _], _ => rfl)
    exact (xs_cons (xs_setLc 3 (own := [("_law_symbol", 4)]) rfl sc_L_tree.nd (xi_rg1 B (XE.w (xe_len B (xw_n 1)))) (blkOk_by (by kernel_rfl)) (fun _ _ _ _ _ => (xg_n 4 sc_L_tree.nd)) (fun _ _ _ _ _ => (xts_one (xt_cmp c_lt (XE.w (xe_ix (xw_n 1) (xw_n 4))) (xw_n 2)))) (fun _ _ _ _ _ => (xe_n 4)))
  (xs_cons (xs_set 4 sc_L_tree.nd (xe_ix (xw_n 3) (XE.w (xe_callW (F := SW) (ω := ω) C_L_next (hr.mono (Nat.le_trans (by decide : 1 ≤ 1) (Nat.le_add_right _ j))) (xa_cons (xe_n 0) (xa_cons (xe_len B (xw_n 3)) xa_nil))))))
  (xs_cons (xs_if (xt_cmp (c_eq (by exact hr.units)) (XE.w (xe_ix (xw_n 1) (xw_n 4))) (XE.w xe_int)) (xs_one (xs_ret (xe_tup (xa_cons (xe_n 4) xa_nil)))) xs_nil)
  (xs_cons (xs_if (xt_cmp (c_eq (by exact hr.units)) (XE.w (xe_ix (xw_n 1) (xw_n 4))) (XE.w xe_int)) (xs_one (xs_ret (xe_tup (xa_cons (xe_n 4) (xa_cons (xe_callW (F := SW) (ω := ω) ih hr (xa_cons (xe_n 0) (xa_cons (xe_n 1) (xa_cons (xe_sub (xw_n 2) (XE.w xe_int)) xa_nil)))) xa_nil))))) xs_nil)
  (xs_cons (xs_set 5 sc_L_tree.nd (xe_add (XE.w xe_int) (XE.w (xe_callW (F := SW) (ω := ω) C_L_next (hr.mono (Nat.le_trans (by decide : 1 ≤ 1) (Nat.le_add_right _ j))) (xa_cons (xe_n 0) (xa_cons (xe_sub (xw_n 2) (XE.w xe_int)) xa_nil))))))
  (xs_one (xs_ret (xe_tup (xa_cons (xe_n 4) (xa_cons (xe_callW (F := SW) (ω := ω) ih hr (xa_cons (xe_n 0) (xa_cons (xe_n 1) (xa_cons (xe_n 5) xa_nil)))) (xa_cons (xe_callW (F := SW) (ω := ω) ih hr (xa_cons (xe_n 0) (xa_cons (xe_n 1) (xa_cons (xe_sub (XE.w (xe_sub (xw_n 2) (XE.w xe_int))) (xw_n 5)) xa_nil)))) xa_nil)))))))))))

theorem sc_L_places_of : FnScope ["_law_stream_here", "_law_tree_here", "_law_places_here", "_law_place"] ["_law_stream_here", "_law_tree_here"] (defScope s_L_places_of) := ⟨rfl, rfl, rfl, by decide +kernel, rfl, by decide +kernel, by decide +kernel⟩
theorem ok_L_places_of {f : Addr} {fd : FuncData} (D : Def K mg "_law_places_of" "_law_places_of" "_law_places_of" s_L_places_of f fd) (B : Bis mg) (C_L_places : CalP P w K mg base 20 "_law_places" 1 (m_L_places 20)) (C_L_next : CalW P w K mg base 1 "_law_next" 2 SW m_L_next) : CalW P w K mg base 21 "_law_places_of" 2 SW m_L_places_of := by
  refine calW_mk D (ps := ["_law_stream_here", "_law_tree_here"]) rfl (ok_eff (W := SW) (k := 20) (N := ["_law_stream_here", "_law_tree_here", "_law_places_here", "_law_place"]) F_L_places_of rfl D.fn sc_L_places_of rfl (by decide) fun ω cdv A outer s H E hr => ?_) (fun _ _ _ _ _ _ us hl => match us, hl with | [_, _], _ => rfl)
  exact (xs_cons (xs_set 2 sc_L_places_of.nd (xe_call C_L_places (hr.mono (by decide)) (xa_cons (xe_n 1) xa_nil)))
  (xs_cons (xs_set 3 sc_L_places_of.nd (xe_ix (xw_n 2) (XE.w (xe_callW (F := SW) (ω := ω) C_L_next (hr.mono (by decide)) (xa_cons (xe_n 0) (xa_cons (xe_len B (xw_n 2)) xa_nil))))))
  (xs_cons (xs_if (XB.t (xb_and (xt_cmp (c_eq (by exact hr.units)) (XE.w (xe_callW (F := SW) (ω := ω) C_L_next (hr.mono (by decide)) (xa_cons (xe_n 0) (xa_cons xe_int xa_nil)))) (XE.w xe_int)) (xb_and1 (xt_cmp c_lt (XE.w (xe_len B (xw_n 3))) (XE.w xe_int))))) (xs_one (xs_set 3 sc_L_places_of.nd (xe_add (xw_n 3) (XE.w (xe_tup (xa_cons (xe_callW (F := SW) (ω := ω) C_L_next (hr.mono (by decide)) (xa_cons (xe_n 0) (xa_cons xe_int xa_nil))) xa_nil)))))) xs_nil)
  (xs_one (xs_ret (xe_n 3))))))

theorem sc_L_command : FnScope ["_law_stream_here", "_law_automaton_here", "_law_trees", "_law_arities_here", "_law_good", "_law_steps", "_law_pick", "_law_many", "_law_one", "_law_other", "_law_place", "_law_symbol", "_law_states_here", "_law_k"] ["_law_stream_here", "_law_automaton_here", "_law_trees"] (defScope s_L_command) := ⟨rfl, rfl, rfl, by decide +kernel, rfl, by decide +kernel, by decide +kernel⟩
theorem ok_L_command {f : Addr} {fd : FuncData} (D : Def K mg "_law_command" "_law_command" "_law_command" s_L_command f fd) (B : Bis mg) (C_L_next : CalW P w K mg base 1 "_law_next" 2 SW m_L_next) (C_L_tree : CalW P w K mg base 21 "_law_tree" 3 SW (m_L_tree 20)) (C_L_places_of : CalW P w K mg base 21 "_law_places_of" 2 SW m_L_places_of) : CalW P w K mg base 22 "_law_command" 3 SW m_L_command := by
  refine calW_mk D (ps := ["_law_stream_here", "_law_automaton_here", "_law_trees"]) rfl (ok_eff (W := SW) (k := 21) (N := ["_law_stream_here", "_law_automaton_here", "_law_trees", "_law_arities_here", "_law_good", "_law_steps", "_law_pick", "_law_many", "_law_one", "_law_other", "_law_place", "_law_symbol", "_law_states_here", "_law_k"]) F_L_command rfl D.fn sc_L_command rfl (by decide) fun ω cdv A outer s H E hr => ?_) (fun _ _ _ _ _ _ us hl => match us, hl with | [_, _, _], _ => rfl)
  exact (xs_cons (xs_asg (xe_n 1) (xg_tup rfl (xgs_cons 3 sc_L_command.nd (xgs_cons 4 sc_L_command.nd (xgs_cons 5 sc_L_command.nd xgs_nil)))))
  (xs_cons (xs_set 6 sc_L_command.nd (xe_callW (F := SW) (ω := ω) C_L_next (hr.mono (by decide)) (xa_cons (xe_n 0) (xa_cons xe_int xa_nil))))
  (xs_cons (xs_set 7 sc_L_command.nd (xe_len B (xw_n 2)))
  (xs_cons (xs_if (XB.t (xb_or (xt_cmp c_lt (xw_n 6) (XE.w xe_int)) (xb_or1 (xt_cmp (c_eq (by exact hr.units)) (xw_n 7) (XE.w xe_int))))) (xs_one (xs_ret (xe_tup (xa_cons xe_str (xa_cons (xe_callW (F := SW) (ω := ω) C_L_tree (hr.mono (by decide)) (xa_cons (xe_n 0) (xa_cons (xe_n 3) (xa_cons xe_int xa_nil)))) xa_nil))))) xs_nil)
  (xs_cons (xs_if (xt_cmp c_lt (xw_n 6) (XE.w xe_int)) (xs_cons (xs_set 8 sc_L_command.nd (xe_callW (F := SW) (ω := ω) C_L_next (hr.mono (by decide)) (xa_cons (xe_n 0) (xa_cons (xe_add (xw_n 7) (XE.w (xe_intc B (XE.w (xe_cmp c_lt (xw_n 7) (XE.w xe_int)))))) xa_nil))))
  (xs_cons (xs_set 9 sc_L_command.nd (xe_callW (F := SW) (ω := ω) C_L_next (hr.mono (by decide)) (xa_cons (xe_n 0) (xa_cons (xe_n 7) xa_nil))))
  (xs_cons (xs_set 10 sc_L_command.nd (xe_tup xa_nil))
  (xs_cons (xs_if (xt_cmp c_lt (xw_n 8) (xw_n 7)) (xs_one (xs_set 10 sc_L_command.nd (xe_callW (F := SW) (ω := ω) C_L_places_of (hr.mono (by decide)) (xa_cons (xe_n 0) (xa_cons (xe_ix (xw_n 2) (xw_n 8)) xa_nil))))) xs_nil)
  (xs_one (xs_ret (xe_tup (xa_cons xe_str (xa_cons (xe_n 8) (xa_cons (xe_n 10) (xa_cons (xe_n 9) (xa_cons (xe_callW (F := SW) (ω := ω) C_L_places_of (hr.mono (by decide)) (xa_cons (xe_n 0) (xa_cons (xe_ix (xw_n 2) (xw_n 9)) xa_nil))) xa_nil)))))))))))) xs_nil)
  (xs_cons (xs_if (xt_cmp (c_eq (by exact hr.units)) (xw_n 6) (XE.w xe_int)) (xs_one (xs_ret (xe_tup (xa_cons xe_str (xa_cons (xe_callW (F := SW) (ω := ω) C_L_next (hr.mono (by decide)) (xa_cons (xe_n 0) (xa_cons (xe_add (xw_n 7) (XE.w (xe_intc B (XE.w (xe_cmp c_lt (xw_n 7) (XE.w xe_int)))))) xa_nil))) xa_nil))))) xs_nil)
  (xs_cons (xs_if (xt_cmp (c_eq (by exact hr.units)) (xw_n 6) (XE.w xe_int)) (xs_one (xs_ret (xe_tup (xa_cons xe_str (xa_cons (xe_callW (F := SW) (ω := ω) C_L_next (hr.mono (by decide)) (xa_cons (xe_n 0) (xa_cons (xe_len B (xw_n 4)) xa_nil))) (xa_cons (xe_cmp (c_eq (by exact hr.units)) (XE.w (xe_callW (F := SW) (ω := ω) C_L_next (hr.mono (by decide)) (xa_cons (xe_n 0) (xa_cons xe_int xa_nil)))) (XE.w xe_int)) xa_nil)))))) xs_nil)
  (xs_cons (xs_set 11 sc_L_command.nd (xe_callW (F := SW) (ω := ω) C_L_next (hr.mono (by decide)) (xa_cons (xe_n 0) (xa_cons (xe_len B (xw_n 3)) xa_nil))))
  (xs_cons (xs_set 12 sc_L_command.nd (xe_tuple B (XE.w (xe_lc (own := [("_law_k", 13)]) rfl sc_L_command.nd (xi_rg1 B (XE.w (xe_ix (xw_n 3) (xw_n 11)))) (blkOk_by (by kernel_rfl)) (fun _ _ _ _ _ => (xg_n 13 sc_L_command.nd)) (fun _ _ _ _ _ => xts_nil) (fun _ _ _ _ _ => (xe_callW (F := SW) (ω := ω) C_L_next (hr.mono (by decide)) (xa_cons (xe_n 0) (xa_cons (xe_len B (xw_n 4)) xa_nil))))))))
  (xs_one (xs_ret (xe_tup (xa_cons xe_str (xa_cons (xe_n 11) (xa_cons (xe_n 12) (xa_cons (xe_callW (F := SW) (ω := ω) C_L_next (hr.mono (by decide)) (xa_cons (xe_n 0) (xa_cons (xe_len B (xw_n 4)) xa_nil))) xa_nil))))))))))))))))

theorem sc_swapped : FnScope ["trees", "command", "word", "one", "place", "other", "later", "first", "second", "found"] ["trees", "command"] (defScope s_swapped) := ⟨rfl, rfl, rfl, by decide +kernel, rfl, by decide +kernel, by decide +kernel⟩
theorem ok_swapped {f Cn : Addr} {fd : FuncData} (D : Def K mg "swapped" "swapped" "swapped" s_swapped f fd) (B : Bis mg) (Npx : Np P w K mg base Cn) (c_MOST_NODES_garden : ∃ t, mg "MOST_NODES_garden" = some (.int 15 t)) (C_replaced : CalP P w K mg base 1 "replaced" 3 m_replaced) (C_part_at : CalP P w K mg base 1 "part_at" 2 m_part_at) (C_put_at : CalP P w K mg base 20 "put_at" 3 (m_put_at 20)) (C_size_of : CalP P w K mg base 40 "size_of" 1 (m_size_of 40)) : CalX P w K mg base 41 "swapped" Cn 2 (fun _ : Unit => W0) (fun _ => m_swapped) := by
  refine calX_mk D (ps := ["trees", "command"]) rfl (ok_rais (W := fun _ : Unit => W0) (k := 40) (N := ["trees", "command", "word", "one", "place", "other", "later", "first", "second", "found"]) (fun _ => F_swapped) rfl D.fn sc_swapped rfl (by decide) fun q cdv A outer s H E hr tk => ?_) (fun _ _ _ _ _ _ us hl => match us, hl with | [_, _], _ => rfl)
  exact (xs_cons (xs_asg (xe_n 1) (xg_tup rfl (xgs_cons 2 sc_swapped.nd (xgs_cons 3 sc_swapped.nd (xgs_cons 4 sc_swapped.nd (xgs_cons 5 sc_swapped.nd (xgs_cons 6 sc_swapped.nd xgs_nil)))))))
  (xs_cons (xs_if (XB.t (xb_or (xt_cmp c_ge (xw_n 3) (XE.w (xe_len B (xw_n 0)))) (xb_or1 (xt_cmp c_ge (xw_n 5) (XE.w (xe_len B (xw_n 0))))))) (xs_one (xs_raise Npx (hr.mono (by decide)) tk (fun _ _ _ _ h => h))) xs_nil)
  (xs_cons (xs_par 7 8 sc_swapped.nd (xa_cons (xe_call C_part_at (hr.mono (by decide)) (xa_cons (xe_ix (xw_n 0) (xw_n 3)) (xa_cons (xe_n 4) xa_nil))) (xa_cons (xe_call C_part_at (hr.mono (by decide)) (xa_cons (xe_ix (xw_n 0) (xw_n 5)) (xa_cons (xe_n 6) xa_nil))) xa_nil)))
  (xs_cons (xs_if (XB.t (xb_or (xt_cmp c_isN (xw_n 7) (XE.w xe_non)) (xb_or1 (xt_cmp c_isN (xw_n 8) (XE.w xe_non))))) (xs_one (xs_raise Npx (hr.mono (by decide)) tk (fun _ _ _ _ h => h))) xs_nil)
  (xs_cons (xs_if (XB.t (xb_and (xt_cmp (c_eq (by exact hr.units)) (xw_n 3) (xw_n 5)) (xb_and1 (XB.t (xb_or (xt_cmp (c_eq (by exact hr.units)) (XE.w (xe_sl (xw_n 4) xo_no (xo_some (XE.w (xe_len B (xw_n 6)))))) (xw_n 6)) (xb_or1 (xt_cmp (c_eq (by exact hr.units)) (XE.w (xe_sl (xw_n 6) xo_no (xo_some (XE.w (xe_len B (xw_n 4)))))) (xw_n 4)))))))) (xs_one (xs_raise Npx (hr.mono (by decide)) tk (fun _ _ _ _ h => h))) xs_nil)
  (xs_cons (xs_set 9 sc_swapped.nd (xe_call C_replaced (hr.mono (by decide)) (xa_cons (xe_n 0) (xa_cons (xe_n 3) (xa_cons (xe_call C_put_at (hr.mono (by decide)) (xa_cons (xe_ix (xw_n 0) (xw_n 3)) (xa_cons (xe_n 4) (xa_cons (xe_n 8) xa_nil)))) xa_nil)))))
  (xs_cons (xs_set 9 sc_swapped.nd (xe_call C_replaced (hr.mono (by decide)) (xa_cons (xe_n 9) (xa_cons (xe_n 5) (xa_cons (xe_call C_put_at (hr.mono (by decide)) (xa_cons (xe_ix (xw_n 9) (xw_n 5)) (xa_cons (xe_n 6) (xa_cons (xe_n 7) xa_nil)))) xa_nil)))))
  (xs_cons (xs_if (XB.t (xb_or (xt_cmp c_gt (XE.w (xe_call C_size_of (hr.mono (by decide)) (xa_cons (xe_ix (xw_n 9) (xw_n 3)) xa_nil))) (XE.w (xe_gint c_MOST_NODES_garden))) (xb_or1 (xt_cmp c_gt (XE.w (xe_call C_size_of (hr.mono (by decide)) (xa_cons (xe_ix (xw_n 9) (xw_n 5)) xa_nil))) (XE.w (xe_gint c_MOST_NODES_garden)))))) (xs_one (xs_raise Npx (hr.mono (by decide)) tk (fun _ _ _ _ h => h))) xs_nil)
  (xs_one (xs_ret (xe_n 9)))))))))))

theorem sc_behind : FnScope ["state", "command", "automaton", "trees", "arities", "good", "steps", "entry"] ["state", "command"] (defScope s_behind) := ⟨rfl, rfl, rfl, by decide +kernel, rfl, by decide +kernel, by decide +kernel⟩
theorem ok_behind {f Cn : Addr} {fd : FuncData} (D : Def K mg "behind" "behind" "behind" s_behind f fd) (B : Bis mg) (Npx : Np P w K mg base Cn) (c_MOST_TREES : ∃ t, mg "MOST_TREES" = some (.int 12 t)) (C_entry_with : CalP P w K mg base 2 "entry_with" 3 m_entry_with) (X_swapped : CalX P w K mg base 41 "swapped" Cn 2 (fun _ : Unit => W0) (fun _ => m_swapped)) (C_replaced : CalP P w K mg base 1 "replaced" 3 m_replaced) : CalX P w K mg base 42 "behind" Cn 2 (fun _ : Unit => W0) (fun _ => m_behind) := by
  refine calX_mk D (ps := ["state", "command"]) rfl (ok_rais (W := fun _ : Unit => W0) (k := 41) (N := ["state", "command", "automaton", "trees", "arities", "good", "steps", "entry"]) (fun _ => F_behind) rfl D.fn sc_behind rfl (by decide) fun q cdv A outer s H E hr tk => ?_) (fun _ _ _ _ _ _ us hl => match us, hl with | [_, _], _ => rfl)
  exact (xs_cons (xs_asg (xe_n 0) (xg_tup rfl (xgs_cons 2 sc_behind.nd (xgs_cons 3 sc_behind.nd xgs_nil))))
  (xs_cons (xs_asg (xe_n 2) (xg_tup rfl (xgs_cons 4 sc_behind.nd (xgs_cons 5 sc_behind.nd (xgs_cons 6 sc_behind.nd xgs_nil)))))
  (xs_cons (xs_if (xt_cmp (c_eq (by exact hr.units)) (XE.w (xe_ix (xw_n 1) (XE.w xe_int))) (XE.w xe_str)) (xs_cons (xs_set 7 sc_behind.nd (xe_call C_entry_with (hr.mono (by decide)) (xa_cons (xe_ix (xw_n 6) (XE.w (xe_ix (xw_n 1) (XE.w xe_int)))) (xa_cons (xe_ix (xw_n 1) (XE.w xe_int)) (xa_cons (xe_ix (xw_n 1) (XE.w xe_int)) xa_nil)))))
  (xs_one (xs_ret (xe_tup (xa_cons (xe_tup (xa_cons (xe_n 4) (xa_cons (xe_n 5) (xa_cons (xe_call C_replaced (hr.mono (by decide)) (xa_cons (xe_n 6) (xa_cons (xe_ix (xw_n 1) (XE.w xe_int)) (xa_cons (xe_n 7) xa_nil)))) xa_nil)))) (xa_cons (xe_n 3) xa_nil)))))) xs_nil)
  (xs_cons (xs_if (xt_cmp (c_eq (by exact hr.units)) (XE.w (xe_ix (xw_n 1) (XE.w xe_int))) (XE.w xe_str)) (xs_one (xs_ret (xe_tup (xa_cons (xe_tup (xa_cons (xe_n 4) (xa_cons (xe_call C_replaced (hr.mono (by decide)) (xa_cons (xe_n 5) (xa_cons (xe_ix (xw_n 1) (XE.w xe_int)) (xa_cons (xe_ix (xw_n 1) (XE.w xe_int)) xa_nil)))) (xa_cons (xe_n 6) xa_nil)))) (xa_cons (xe_n 3) xa_nil))))) xs_nil)
  (xs_cons (xs_if (xt_cmp (c_eq (by exact hr.units)) (XE.w (xe_ix (xw_n 1) (XE.w xe_int))) (XE.w xe_str)) (xs_cons (xs_if (xt_cmp c_ge (XE.w (xe_len B (xw_n 3))) (XE.w (xe_gint c_MOST_TREES))) (xs_one (xs_raise Npx (hr.mono (by decide)) tk (fun _ _ _ _ h => h))) xs_nil)
  (xs_one (xs_ret (xe_tup (xa_cons (xe_n 2) (xa_cons (xe_add (xw_n 3) (XE.w (xe_tup (xa_cons (xe_ix (xw_n 1) (XE.w xe_int)) xa_nil)))) xa_nil)))))) xs_nil)
  (xs_cons (xs_if (xt_cmp (c_eq (by exact hr.units)) (XE.w (xe_ix (xw_n 1) (XE.w xe_int))) (XE.w xe_str)) (xs_one (xs_retR (F := fun _ : Unit => W0) (ω := ()) (Sub.id W0) X_swapped (hr.mono (by decide)) tk (fun _ _ _ _ h => h) (xe_n 2) (xa_cons (xe_n 3) (xa_cons (xe_n 1) xa_nil)))) xs_nil)
  (xs_cons (xs_if (xt_cmp c_ge (XE.w (xe_ix (xw_n 1) (XE.w xe_int))) (XE.w (xe_len B (xw_n 3)))) (xs_one (xs_raise Npx (hr.mono (by decide)) tk (fun _ _ _ _ h => h))) xs_nil)
  (xs_one (xs_ret (xe_tup (xa_cons (xe_n 2) (xa_cons (xe_add (XE.w (xe_sl (xw_n 3) xo_no (xo_some (XE.w (xe_ix (xw_n 1) (XE.w xe_int)))))) (XE.w (xe_sl (xw_n 3) (xo_some (XE.w (xe_add (XE.w (xe_ix (xw_n 1) (XE.w xe_int))) (XE.w xe_int)))) xo_no))) xa_nil))))))))))))

theorem sc_G_act : FnScope ["self", "command", "state"] ["self", "command"] (defScope s_Garden_act) := ⟨rfl, rfl, rfl, by decide +kernel, rfl, by decide +kernel, by decide +kernel⟩
theorem ok_G_act {f Cg Cn : Addr} {fd : FuncData} (D : FunD K "act" "Garden.act" (defArgs s_Garden_act) (defBody s_Garden_act) (defScope s_Garden_act) [] [] f fd) (Me : Meth K Cg "act" f) (T : GaT K Cg) (B : Bis mg) (c_MOST_COMMANDS : ∃ t, mg "MOST_COMMANDS" = some (.int 20 t)) (X_behind : CalX P w K mg base 42 "behind" Cn 2 (fun _ : Unit => W0) (fun _ => m_behind)) (C_is_command : CalP P w K mg base 4 "is_command" 2 m_is_command) : CalY P w K mg base Cg Cn 43 "act" 2 m_G_act := by
  refine ⟨f, fd, ["self", "command"], rfl, ok_rais (W := fun q : {ω : GO // ω.C = Cg} => GW q.1) (k := 42) (N := ["self", "command", "state"]) (fun q => F_G_act q.1) rfl D sc_G_act rfl (by decide) fun q cdv A outer s H E hr tk => ?_, Me, D.bindsN (fun _ _ _ _ _ _ us hl => match us, hl with | [_, _], _ => rfl)⟩
  have T' : GaT K q.1.C := by rw [q.2]; exact T
  generalize hω : q.1 = ω at T' ⊢
  exact (xs_cons (xs_if (xt_not (xt_truth (XE.w (xe_call C_is_command (hr.mono (by decide)) (xa_cons (xe_n 1) (xa_cons (xe_gf T' (xe_n 0)) xa_nil)))))) (xs_one xs_never) xs_nil)
  (xs_cons (xs_setR 2 (F := fun _ : Unit => W0) (ω := ()) (Sub.none (GW ω)) X_behind (hr.mono (by decide)) tk (fun _ _ _ _ h => h) sc_G_act.nd (xa_cons (xe_gl T' (xe_n 0)) (xa_cons (xe_n 1) xa_nil)))
  (xs_cons (xs_if (xt_cmp c_ge (XE.w (xe_len B (XE.w (xe_gc T' (xe_n 0))))) (XE.w (xe_gint c_MOST_COMMANDS))) (xs_one xs_never) xs_nil)
  (xs_cons (xs_gp T' (xe_n 0) (xe_n 2))
  (xs_cons (xs_gs T' (xe_n 0) (xe_add (XE.w (xe_gc T' (xe_n 0))) (XE.w (xe_tup (xa_cons (xe_n 1) xa_nil)))))
  (xs_one (xs_ret (xe_len B (XE.w (xe_gc T' (xe_n 0)))))))))))

theorem sc_G_automaton : FnScope ["self"] ["self"] (defScope s_Garden_automaton) := ⟨rfl, rfl, rfl, by decide +kernel, rfl, by decide +kernel, by decide +kernel⟩
theorem ok_G_automaton {f Cg : Addr} {fd : FuncData} (D : FunD K "automaton" "Garden.automaton" (defArgs s_Garden_automaton) (defBody s_Garden_automaton) (defScope s_Garden_automaton) [] [] f fd) (Me : Meth K Cg "automaton" f) (T : GaT K Cg) (B : Bis mg) : CalM P w K mg base Cg 1 "automaton" 1 m_G_automaton := by
  refine ⟨f, fd, ["self"], rfl, ok_eff (W := fun q : {ω : GO // ω.C = Cg} => GW q.1) (k := 0) (N := ["self"]) (fun q => F_G_automaton q.1) rfl D sc_G_automaton rfl (by decide) fun q cdv A outer s H E hr => ?_, Me, D.bindsN (fun _ _ _ _ _ _ us hl => match us, hl with | [_], _ => rfl)⟩
  have T' : GaT K q.1.C := by rw [q.2]; exact T
  generalize hω : q.1 = ω at T' ⊢
  exact (xs_one (xs_ret (xe_ix (XE.w (xe_gl T' (xe_n 0))) (XE.w xe_int))))

theorem sc_G_trees : FnScope ["self"] ["self"] (defScope s_Garden_trees) := ⟨rfl, rfl, rfl, by decide +kernel, rfl, by decide +kernel, by decide +kernel⟩
theorem ok_G_trees {f Cg : Addr} {fd : FuncData} (D : FunD K "trees" "Garden.trees" (defArgs s_Garden_trees) (defBody s_Garden_trees) (defScope s_Garden_trees) [] [] f fd) (Me : Meth K Cg "trees" f) (T : GaT K Cg) (B : Bis mg) : CalM P w K mg base Cg 1 "trees" 1 m_G_trees := by
  refine ⟨f, fd, ["self"], rfl, ok_eff (W := fun q : {ω : GO // ω.C = Cg} => GW q.1) (k := 0) (N := ["self"]) (fun q => F_G_trees q.1) rfl D sc_G_trees rfl (by decide) fun q cdv A outer s H E hr => ?_, Me, D.bindsN (fun _ _ _ _ _ _ us hl => match us, hl with | [_], _ => rfl)⟩
  have T' : GaT K q.1.C := by rw [q.2]; exact T
  generalize hω : q.1 = ω at T' ⊢
  exact (xs_one (xs_ret (xe_ix (XE.w (xe_gl T' (xe_n 0))) (XE.w xe_int))))

theorem sc_G_journal : FnScope ["self"] ["self"] (defScope s_Garden_journal) := ⟨rfl, rfl, rfl, by decide +kernel, rfl, by decide +kernel, by decide +kernel⟩
theorem ok_G_journal {f Cg : Addr} {fd : FuncData} (D : FunD K "journal" "Garden.journal" (defArgs s_Garden_journal) (defBody s_Garden_journal) (defScope s_Garden_journal) [] [] f fd) (Me : Meth K Cg "journal" f) (T : GaT K Cg) (B : Bis mg) : CalM P w K mg base Cg 1 "journal" 1 m_G_journal := by
  refine ⟨f, fd, ["self"], rfl, ok_eff (W := fun q : {ω : GO // ω.C = Cg} => GW q.1) (k := 0) (N := ["self"]) (fun q => F_G_journal q.1) rfl D sc_G_journal rfl (by decide) fun q cdv A outer s H E hr => ?_, Me, D.bindsN (fun _ _ _ _ _ _ us hl => match us, hl with | [_], _ => rfl)⟩
  have T' : GaT K q.1.C := by rw [q.2]; exact T
  generalize hω : q.1 = ω at T' ⊢
  exact (xs_one (xs_ret (xe_gc T' (xe_n 0))))

theorem sc_G_states : FnScope ["self"] ["self"] (defScope s_Garden_states) := ⟨rfl, rfl, rfl, by decide +kernel, rfl, by decide +kernel, by decide +kernel⟩
theorem ok_G_states {f Cg : Addr} {fd : FuncData} (D : FunD K "states" "Garden.states" (defArgs s_Garden_states) (defBody s_Garden_states) (defScope s_Garden_states) [] [] f fd) (Me : Meth K Cg "states" f) (T : GaT K Cg) (B : Bis mg) (C_states_in : CalP P w K mg base 22 "states_in" 1 m_states_in) : CalM P w K mg base Cg 23 "states" 1 m_G_states := by
  refine ⟨f, fd, ["self"], rfl, ok_eff (W := fun q : {ω : GO // ω.C = Cg} => GW q.1) (k := 22) (N := ["self"]) (fun q => F_G_states q.1) rfl D sc_G_states rfl (by decide) fun q cdv A outer s H E hr => ?_, Me, D.bindsN (fun _ _ _ _ _ _ us hl => match us, hl with | [_], _ => rfl)⟩
  have T' : GaT K q.1.C := by rw [q.2]; exact T
  generalize hω : q.1 = ω at T' ⊢
  exact (xs_one (xs_ret (xe_call C_states_in (hr.mono (by decide)) (xa_cons (xe_gl T' (xe_n 0)) xa_nil))))

theorem sc_G_good : FnScope ["self", "number", "state"] ["self"] (defScope s_Garden_good) := ⟨rfl, rfl, rfl, by decide +kernel, rfl, by decide +kernel, by decide +kernel⟩
theorem ok_G_good {f Cg : Addr} {fd : FuncData} (D : FunD K "good" "Garden.good" (defArgs s_Garden_good) (defBody s_Garden_good) (defScope s_Garden_good) [] [] f fd) (Me : Meth K Cg "good" f) (T : GaT K Cg) (B : Bis mg) (M_states : CalM P w K mg base Cg 23 "states" 1 m_G_states) (M_automaton : CalM P w K mg base Cg 1 "automaton" 1 m_G_automaton) : CalM P w K mg base Cg 24 "good" 1 m_G_good := by
  refine ⟨f, fd, ["self"], rfl, ok_eff (W := fun q : {ω : GO // ω.C = Cg} => GW q.1) (k := 23) (N := ["self", "number", "state"]) (fun q => F_G_good q.1) rfl D sc_G_good rfl (by decide) fun q cdv A outer s H E hr => ?_, Me, D.bindsN (fun _ _ _ _ _ _ us hl => match us, hl with | [_], _ => rfl)⟩
  have T' : GaT K q.1.C := by rw [q.2]; exact T
  generalize hω : q.1 = ω at T' ⊢
  exact (xs_one (xs_ret (xe_tuple B (XE.w (xe_lc (own := [("number", 1), ("state", 2)]) rfl sc_G_good.nd (xi_enumW B (XE.w (xe_meth0 (ω := ω) (Sub.id (GW ω)) T (hω ▸ q.2) M_states (hr.mono (by decide)) (xe_n 0)))) (blkOk_by (by kernel_rfl)) (fun _ _ _ _ _ => (xg_tup rfl (xgs_cons 1 sc_G_good.nd (xgs_cons 2 sc_G_good.nd xgs_nil)))) (fun _ _ _ _ _ => (xts_one (xt_truth (XE.w (xe_ix (XE.w (xe_ix (XE.w (xe_meth0 (ω := ω) (Sub.id (GW ω)) T (hω ▸ q.2) M_automaton (hr.mono (by decide)) (xe_n 0))) (XE.w xe_int))) (xw_n 2)))))) (fun _ _ _ _ _ => (xe_n 1)))))))

theorem sc_G_let_in : FnScope ["self", "depth", "at", "tree"] ["self", "depth"] (defScope s_Garden_let_in) := ⟨rfl, rfl, rfl, by decide +kernel, rfl, by decide +kernel, by decide +kernel⟩
theorem ok_G_let_in {f Cg : Addr} {fd : FuncData} (D : FunD K "let_in" "Garden.let_in" (defArgs s_Garden_let_in) (defBody s_Garden_let_in) (defScope s_Garden_let_in) [] [] f fd) (Me : Meth K Cg "let_in" f) (T : GaT K Cg) (B : Bis mg) (c_MOST_DEPTH : ∃ t, mg "MOST_DEPTH" = some (.int 12 t)) (C_check_depth : CalP P w K mg base 1 "check_depth" 2 m_check_depth) (C_let_in : CalP P w K mg base 25 "let_in_closure" 3 m_let_in) (M_trees : CalM P w K mg base Cg 1 "trees" 1 m_G_trees) (M_automaton : CalM P w K mg base Cg 1 "automaton" 1 m_G_automaton) : CalM P w K mg base Cg 26 "let_in" 2 m_G_let_in := by
  refine ⟨f, fd, ["self", "depth"], rfl, ok_eff (W := fun q : {ω : GO // ω.C = Cg} => GW q.1) (k := 25) (N := ["self", "depth", "at", "tree"]) (fun q => F_G_let_in q.1) rfl D sc_G_let_in rfl (by decide) fun q cdv A outer s H E hr => ?_, Me, D.bindsN (fun _ _ _ _ _ _ us hl => match us, hl with | [_, _], _ => rfl)⟩
  have T' : GaT K q.1.C := by rw [q.2]; exact T
  generalize hω : q.1 = ω at T' ⊢
  exact (xs_cons (xs_expr (xe_call C_check_depth (hr.mono (by decide)) (xa_cons (xe_n 1) (xa_cons (xe_gint c_MOST_DEPTH) xa_nil))))
  (xs_one (xs_ret (xe_tuple B (XE.w (xe_lc (own := [("at", 2), ("tree", 3)]) rfl sc_G_let_in.nd (xi_enumW B (XE.w (xe_meth0 (ω := ω) (Sub.id (GW ω)) T (hω ▸ q.2) M_trees (hr.mono (by decide)) (xe_n 0)))) (blkOk_by (by kernel_rfl)) (fun _ _ _ _ _ => (xg_tup rfl (xgs_cons 2 sc_G_let_in.nd (xgs_cons 3 sc_G_let_in.nd xgs_nil)))) (fun _ _ _ _ _ => (xts_one (xt_truth (XE.w (xe_call C_let_in (hr.mono (by decide)) (xa_cons (xe_meth0 (ω := ω) (Sub.id (GW ω)) T (hω ▸ q.2) M_automaton (hr.mono (by decide)) (xe_n 0)) (xa_cons (xe_n 1) (xa_cons (xe_n 3) xa_nil)))))))) (fun _ _ _ _ _ => (xe_n 2))))))))

end
end K7
end
section
set_option maxRecDepth 100000
set_option maxHeartbeats 4000000
namespace K7
open PySem L2 K76 PyProof.Rows
theorem facts {P : Program} {w : World} {K : PySem.W.Frag} {h : Heap} {mg : Str → Option Value} {f : Addr} (PL : PlainLaw) (X : K.In h) (G : h.Ns mainGlobals mg) (hfa : mg ("law" : Str) = some (.ref f)) (cd : He.SaysD fa fn K) (np : npB K = true) :
    ∃ fd : FuncData, (∀ (s : Shared) (v : Value), BindsTo s fd ⟨[v], []⟩ [("_law_script", v)]) ∧ ∀ base : Heap, K.In base → base.Ns mainGlobals mg → FnOk P w K mg base CX0 (kLaw + 1) f fd ["_law_script"] (spLaw K) := by
  have B : Bis mg := ⟨He.free_ok X G (cd.fact 71 (f := .free "len") rfl), He.free_ok X G (cd.fact 72 (f := .free "isinstance") rfl), He.free_ok X G (cd.fact 73 (f := .free "int") rfl), He.free_ok X G (cd.fact 74 (f := .free "bool") rfl), He.free_ok X G (cd.fact 75 (f := .free "tuple") rfl), He.free_ok X G (cd.fact 76 (f := .free "list") rfl), He.free_ok X G (cd.fact 77 (f := .free "str") rfl), He.free_ok X G (cd.fact 78 (f := .free "all") rfl), He.free_ok X G (cd.fact 79 (f := .free "any") rfl), He.free_ok X G (cd.fact 80 (f := .free "sum") rfl), He.free_ok X G (cd.fact 81 (f := .free "max") rfl), He.free_ok X G (cd.fact 82 (f := .free "abs") rfl), He.free_ok X G (cd.fact 83 (f := .free "sorted") rfl), He.free_ok X G (cd.fact 84 (f := .free "range") rfl), He.free_ok X G (cd.fact 85 (f := .free "enumerate") rfl), He.free_ok X G (cd.fact 86 (f := .free "zip") rfl)⟩
  have c_MOST_SYMBOLS : ∃ t, mg "MOST_SYMBOLS" = some (.int 4 t) := He.int_ok X G (cd.fact 62 (f := .int "MOST_SYMBOLS" 4) rfl)
  have c_MOST_ARITY : ∃ t, mg "MOST_ARITY" = some (.int 2 t) := He.int_ok X G (cd.fact 63 (f := .int "MOST_ARITY" 2) rfl)
  have c_MOST_NODES_trees : ∃ t, mg "MOST_NODES_trees" = some (.int 15 t) := He.int_ok X G (cd.fact 64 (f := .int "MOST_NODES_trees" 15) rfl)
  have c_MOST_STATES : ∃ t, mg "MOST_STATES" = some (.int 4 t) := He.int_ok X G (cd.fact 65 (f := .int "MOST_STATES" 4) rfl)
  have c_MOST_DEPTH : ∃ t, mg "MOST_DEPTH" = some (.int 12 t) := He.int_ok X G (cd.fact 66 (f := .int "MOST_DEPTH" 12) rfl)
  have c_MOST_TREES : ∃ t, mg "MOST_TREES" = some (.int 12 t) := He.int_ok X G (cd.fact 67 (f := .int "MOST_TREES" 12) rfl)
  have c_MOST_NODES_garden : ∃ t, mg "MOST_NODES_garden" = some (.int 15 t) := He.int_ok X G (cd.fact 68 (f := .int "MOST_NODES_garden" 15) rfl)
  have c_MOST_PLACE : ∃ t, mg "MOST_PLACE" = some (.int 14 t) := He.int_ok X G (cd.fact 69 (f := .int "MOST_PLACE" 14) rfl)
  have c_MOST_COMMANDS : ∃ t, mg "MOST_COMMANDS" = some (.int 20 t) := He.int_ok X G (cd.fact 70 (f := .int "MOST_COMMANDS" 20) rfl)
  obtain ⟨fd_NotPossible_init, D_NotPossible_init⟩ := cd.def_ 0 (d := d_NotPossible_init) rfl
  obtain ⟨fd_is_number_trees, D_is_number_trees⟩ := cd.def_ 1 (d := d_is_number_trees) rfl
  obtain ⟨fd_is_arities, D_is_arities⟩ := cd.def_ 2 (d := d_is_arities) rfl
  obtain ⟨fd_is_tree, D_is_tree⟩ := cd.def_ 3 (d := d_is_tree) rfl
  obtain ⟨fd_size_of, D_size_of⟩ := cd.def_ 4 (d := d_size_of) rfl
  obtain ⟨fd_part_at, D_part_at⟩ := cd.def_ 5 (d := d_part_at) rfl
  obtain ⟨fd_put_at, D_put_at⟩ := cd.def_ 6 (d := d_put_at) rfl
  obtain ⟨fd_is_row, D_is_row⟩ := cd.def_ 7 (d := d_is_row) rfl
  obtain ⟨fd_is_automaton, D_is_automaton⟩ := cd.def_ 8 (d := d_is_automaton) rfl
  obtain ⟨fd_next_state, D_next_state⟩ := cd.def_ 9 (d := d_next_state) rfl
  obtain ⟨fd_state_of, D_state_of⟩ := cd.def_ 10 (d := d_state_of) rfl
  obtain ⟨fd_rows_of, D_rows_of⟩ := cd.def_ 11 (d := d_rows_of) rfl
  obtain ⟨fd_reachable, D_reachable⟩ := cd.def_ 12 (d := d_reachable) rfl
  obtain ⟨fd_check_automaton, D_check_automaton⟩ := cd.def_ 13 (d := d_check_automaton) rfl
  obtain ⟨fd_is_state, D_is_state⟩ := cd.def_ 14 (d := d_is_state) rfl
  obtain ⟨fd_check_depth, D_check_depth⟩ := cd.def_ 15 (d := d_check_depth) rfl
  obtain ⟨fd_come, D_come⟩ := cd.def_ 16 (d := d_come) rfl
  obtain ⟨fd_seen, D_seen⟩ := cd.def_ 17 (d := d_seen) rfl
  obtain ⟨fd_good_states, D_good_states⟩ := cd.def_ 18 (d := d_good_states) rfl
  obtain ⟨fd_handed, D_handed⟩ := cd.def_ 19 (d := d_handed) rfl
  obtain ⟨fd_along, D_along⟩ := cd.def_ 20 (d := d_along) rfl
  obtain ⟨fd_fails, D_fails⟩ := cd.def_ 21 (d := d_fails) rfl
  obtain ⟨fd_let_in, D_let_in⟩ := cd.def_ 22 (d := d_let_in) rfl
  obtain ⟨fd_is_number_garden, D_is_number_garden⟩ := cd.def_ 23 (d := d_is_number_garden) rfl
  obtain ⟨fd_is_short_place, D_is_short_place⟩ := cd.def_ 24 (d := d_is_short_place) rfl
  obtain ⟨fd_is_step, D_is_step⟩ := cd.def_ 25 (d := d_is_step) rfl
  obtain ⟨fd_is_swap, D_is_swap⟩ := cd.def_ 26 (d := d_is_swap) rfl
  obtain ⟨fd_is_command, D_is_command⟩ := cd.def_ 27 (d := d_is_command) rfl
  obtain ⟨fd_replaced, D_replaced⟩ := cd.def_ 28 (d := d_replaced) rfl
  obtain ⟨fd_entry_with, D_entry_with⟩ := cd.def_ 29 (d := d_entry_with) rfl
  obtain ⟨fd_swapped, D_swapped⟩ := cd.def_ 30 (d := d_swapped) rfl
  obtain ⟨fd_behind, D_behind⟩ := cd.def_ 31 (d := d_behind) rfl
  obtain ⟨fd_states_in, D_states_in⟩ := cd.def_ 32 (d := d_states_in) rfl
  obtain ⟨fd_Garden_init, D_Garden_init⟩ := cd.def_ 33 (d := d_Garden_init) rfl
  obtain ⟨fd_Garden_act, D_Garden_act⟩ := cd.def_ 34 (d := d_Garden_act) rfl
  obtain ⟨fd_Garden_automaton, D_Garden_automaton⟩ := cd.def_ 35 (d := d_Garden_automaton) rfl
  obtain ⟨fd_Garden_trees, D_Garden_trees⟩ := cd.def_ 36 (d := d_Garden_trees) rfl
  obtain ⟨fd_Garden_journal, D_Garden_journal⟩ := cd.def_ 37 (d := d_Garden_journal) rfl
  obtain ⟨fd_Garden_states, D_Garden_states⟩ := cd.def_ 38 (d := d_Garden_states) rfl
  obtain ⟨fd_Garden_good, D_Garden_good⟩ := cd.def_ 39 (d := d_Garden_good) rfl
  obtain ⟨fd_Garden_let_in, D_Garden_let_in⟩ := cd.def_ 40 (d := d_Garden_let_in) rfl
  obtain ⟨fd_L_stream, D_L_stream⟩ := cd.def_ 41 (d := d_L_stream) rfl
  obtain ⟨fd_L_next, D_L_next⟩ := cd.def_ 42 (d := d_L_next) rfl
  obtain ⟨fd_L_is_integer, D_L_is_integer⟩ := cd.def_ 43 (d := d_L_is_integer) rfl
  obtain ⟨fd_L_equal, D_L_equal⟩ := cd.def_ 44 (d := d_L_equal) rfl
  obtain ⟨fd_L_arities, D_L_arities⟩ := cd.def_ 45 (d := d_L_arities) rfl
  obtain ⟨fd_L_automaton, D_L_automaton⟩ := cd.def_ 46 (d := d_L_automaton) rfl
  obtain ⟨fd_L_tree, D_L_tree⟩ := cd.def_ 47 (d := d_L_tree) rfl
  obtain ⟨fd_L_next_state, D_L_next_state⟩ := cd.def_ 48 (d := d_L_next_state) rfl
  obtain ⟨fd_L_state, D_L_state⟩ := cd.def_ 49 (d := d_L_state) rfl
  obtain ⟨fd_L_symbols, D_L_symbols⟩ := cd.def_ 50 (d := d_L_symbols) rfl
  obtain ⟨fd_L_size, D_L_size⟩ := cd.def_ 51 (d := d_L_size) rfl
  obtain ⟨fd_L_places, D_L_places⟩ := cd.def_ 52 (d := d_L_places) rfl
  obtain ⟨fd_L_part, D_L_part⟩ := cd.def_ 53 (d := d_L_part) rfl
  obtain ⟨fd_L_put, D_L_put⟩ := cd.def_ 54 (d := d_L_put) rfl
  obtain ⟨fd_L_reachable, D_L_reachable⟩ := cd.def_ 55 (d := d_L_reachable) rfl
  obtain ⟨fd_L_seen, D_L_seen⟩ := cd.def_ 56 (d := d_L_seen) rfl
  obtain ⟨fd_L_handed, D_L_handed⟩ := cd.def_ 57 (d := d_L_handed) rfl
  obtain ⟨fd_L_sets, D_L_sets⟩ := cd.def_ 58 (d := d_L_sets) rfl
  obtain ⟨fd_L_sets_along, D_L_sets_along⟩ := cd.def_ 59 (d := d_L_sets_along) rfl
  obtain ⟨fd_L_let_in, D_L_let_in⟩ := cd.def_ 60 (d := d_L_let_in) rfl
  obtain ⟨fd_L_places_of, D_L_places_of⟩ := cd.def_ 61 (d := d_L_places_of) rfl
  obtain ⟨fd_L_command, D_L_command⟩ := cd.def_ 62 (d := d_L_command) rfl
  obtain ⟨fd_L_replaced, D_L_replaced⟩ := cd.def_ 63 (d := d_L_replaced) rfl
  obtain ⟨fd_L_swapped, D_L_swapped⟩ := cd.def_ 64 (d := d_L_swapped) rfl
  obtain ⟨fd_L_why_not, D_L_why_not⟩ := cd.def_ 65 (d := d_L_why_not) rfl
  obtain ⟨fd_L_entry, D_L_entry⟩ := cd.def_ 66 (d := d_L_entry) rfl
  obtain ⟨fd_L_behind, D_L_behind⟩ := cd.def_ 67 (d := d_L_behind) rfl
  obtain ⟨fd_L_states, D_L_states⟩ := cd.def_ 68 (d := d_L_states) rfl
  obtain ⟨fd_L_told, D_L_told⟩ := cd.def_ 69 (d := d_L_told) rfl
  obtain ⟨fd_law, D_law⟩ := cd.def_ 70 (d := d_law) rfl
  have e := hfa.symm.trans (He.glo_ok X G (cd.fact 61 (f := .glo "law") rfl))
  cases e
  have b := FunD.bindsA (ps := ["_law_script"]) D_law fun _ _ _ _ _ _ us hl => match us, hl with | [_], _ => rfl
  refine ⟨fd_law, fun s v => b s [v] rfl, fun base _ _ => ?_⟩
  have gG := He.glo_ok X G (cd.fact 88 (f := .glo "Garden") rfl)
  have T : GaT K (He.ga K "Garden") := ⟨He.cls_ok (cd.fact 89 (f := .cls "Garden") rfl), He.noat_ok (cd.fact 91 (f := .noat "Garden" "first") rfl), He.noat_ok (cd.fact 92 (f := .noat "Garden" "past") rfl), He.noat_ok (cd.fact 93 (f := .noat "Garden" "commands") rfl)⟩
  have nT := npB_ok (mg := mg) np (He.glo_ok X G (cd.fact 101 (f := .glo "NotPossible") rfl)) (He.keep_ok (cd.fact 102 (f := .keep "NotPossible") rfl)) (He.exm_ok (cd.fact 103 (f := .exm "NotPossible" "NotPossible" true) rfl))
  have Npx : Np P w K mg base (He.ga K "NotPossible") := np_mk D_NotPossible_init nT
  have C_is_number_trees := ok_is_number_trees (P := P) (w := w) (base := base) ⟨D_is_number_trees, He.glo_ok X G (cd.fact 0 (f := .glo "is_number_trees") rfl)⟩ B 
  have C_is_arities := ok_is_arities (P := P) (w := w) (base := base) ⟨D_is_arities, He.glo_ok X G (cd.fact 1 (f := .glo "is_arities") rfl)⟩ B c_MOST_SYMBOLS c_MOST_ARITY C_is_number_trees
  have C_is_tree := ok_is_tree (P := P) (w := w) (base := base) ⟨D_is_tree, He.glo_ok X G (cd.fact 2 (f := .glo "is_tree") rfl)⟩ B c_MOST_NODES_trees C_is_number_trees
  have C_size_of := ok_size_of (P := P) (w := w) (base := base) ⟨D_size_of, He.glo_ok X G (cd.fact 3 (f := .glo "size_of") rfl)⟩ B  40
  have C_part_at := ok_part_at (P := P) (w := w) (base := base) ⟨D_part_at, He.glo_ok X G (cd.fact 4 (f := .glo "part_at") rfl)⟩ B 
  have C_put_at := ok_put_at (P := P) (w := w) (base := base) ⟨D_put_at, He.glo_ok X G (cd.fact 5 (f := .glo "put_at") rfl)⟩ B  20
  have C_is_row := ok_is_row (P := P) (w := w) (base := base) ⟨D_is_row, He.glo_ok X G (cd.fact 6 (f := .glo "is_row") rfl)⟩ B C_is_number_trees
  have C_is_automaton := ok_is_automaton (P := P) (w := w) (base := base) ⟨D_is_automaton, He.glo_ok X G (cd.fact 7 (f := .glo "is_automaton") rfl)⟩ B c_MOST_STATES C_is_arities C_is_row
  have C_next_state := ok_next_state (P := P) (w := w) (base := base) ⟨D_next_state, He.glo_ok X G (cd.fact 8 (f := .glo "next_state") rfl)⟩ B 
  have C_state_of := ok_state_of (P := P) (w := w) (base := base) ⟨D_state_of, He.glo_ok X G (cd.fact 9 (f := .glo "state_of") rfl)⟩ B C_next_state 20
  have C_rows_of := ok_rows_of (P := P) (w := w) (base := base) ⟨D_rows_of, He.glo_ok X G (cd.fact 10 (f := .glo "rows_of") rfl)⟩ B 
  have C_reachable := ok_reachable (P := P) (w := w) (base := base) ⟨D_reachable, He.glo_ok X G (cd.fact 11 (f := .glo "reachable") rfl)⟩ B C_rows_of C_next_state
  have C_is_state := ok_is_state (P := P) (w := w) (base := base) ⟨D_is_state, He.glo_ok X G (cd.fact 13 (f := .glo "is_state") rfl)⟩ B 
  have C_come := ok_come (P := P) (w := w) (base := base) ⟨D_come, He.glo_ok X G (cd.fact 15 (f := .glo "come") rfl)⟩ B C_next_state
  have C_seen := ok_seen (P := P) (w := w) (base := base) ⟨D_seen, He.glo_ok X G (cd.fact 16 (f := .glo "seen") rfl)⟩ B C_come C_reachable 20
  have C_good_states := ok_good_states (P := P) (w := w) (base := base) ⟨D_good_states, He.glo_ok X G (cd.fact 17 (f := .glo "good_states") rfl)⟩ B C_reachable
  have C_handed := ok_handed (P := P) (w := w) (base := base) ⟨D_handed, He.glo_ok X G (cd.fact 18 (f := .glo "handed") rfl)⟩ B C_reachable C_next_state
  have C_fails := ok_fails (P := P) (w := w) (base := base) ⟨D_fails, He.glo_ok X G (cd.fact 20 (f := .glo "fails") rfl)⟩ B C_seen
  have C_along := ok_along (P := P) (w := w) (base := base) ⟨D_along, He.glo_ok X G (cd.fact 19 (f := .glo "along") rfl)⟩ B C_good_states C_handed C_fails C_seen
  have C_let_in := ok_let_in (P := P) (w := w) (base := base) ⟨D_let_in, He.glo_ok X G (cd.fact 21 (f := .glo "let_in_closure") rfl)⟩ B C_fails C_along
  have C_is_number_garden := ok_is_number_garden (P := P) (w := w) (base := base) ⟨D_is_number_garden, He.glo_ok X G (cd.fact 22 (f := .glo "is_number_garden") rfl)⟩ B 
  have C_is_short_place := ok_is_short_place (P := P) (w := w) (base := base) ⟨D_is_short_place, He.glo_ok X G (cd.fact 23 (f := .glo "is_short_place") rfl)⟩ B c_MOST_PLACE C_is_number_garden
  have C_is_step := ok_is_step (P := P) (w := w) (base := base) ⟨D_is_step, He.glo_ok X G (cd.fact 24 (f := .glo "is_step") rfl)⟩ B C_is_state C_is_number_garden
  have C_is_swap := ok_is_swap (P := P) (w := w) (base := base) ⟨D_is_swap, He.glo_ok X G (cd.fact 25 (f := .glo "is_swap") rfl)⟩ B c_MOST_TREES C_is_short_place C_is_number_garden
  have C_is_command := ok_is_command (P := P) (w := w) (base := base) ⟨D_is_command, He.glo_ok X G (cd.fact 26 (f := .glo "is_command") rfl)⟩ B c_MOST_TREES C_is_step C_is_swap C_is_number_garden C_is_state C_is_tree
  have C_replaced := ok_replaced (P := P) (w := w) (base := base) ⟨D_replaced, He.glo_ok X G (cd.fact 27 (f := .glo "replaced") rfl)⟩ B 
  have C_entry_with := ok_entry_with (P := P) (w := w) (base := base) ⟨D_entry_with, He.glo_ok X G (cd.fact 28 (f := .glo "entry_with") rfl)⟩ B C_replaced
  have C_states_in := ok_states_in (P := P) (w := w) (base := base) ⟨D_states_in, He.glo_ok X G (cd.fact 31 (f := .glo "states_in") rfl)⟩ B C_state_of
  have C_check_automaton := ok_check_automaton (P := P) (w := w) (base := base) ⟨D_check_automaton, He.glo_ok X G (cd.fact 12 (f := .glo "check_automaton") rfl)⟩ B C_is_automaton
  have C_check_depth := ok_check_depth (P := P) (w := w) (base := base) ⟨D_check_depth, He.glo_ok X G (cd.fact 14 (f := .glo "check_depth") rfl)⟩ B 
  have C_L_is_integer := ok_L_is_integer (P := P) (w := w) (base := base) ⟨D_L_is_integer, He.glo_ok X G (cd.fact 34 (f := .glo "_law_is_integer") rfl)⟩ B 
  have C_L_equal := ok_L_equal (P := P) (w := w) (base := base) ⟨D_L_equal, He.glo_ok X G (cd.fact 35 (f := .glo "_law_equal") rfl)⟩ B C_L_is_integer 30
  have C_L_next_state := ok_L_next_state (P := P) (w := w) (base := base) ⟨D_L_next_state, He.glo_ok X G (cd.fact 39 (f := .glo "_law_next_state") rfl)⟩ B 
  have C_L_state := ok_L_state (P := P) (w := w) (base := base) ⟨D_L_state, He.glo_ok X G (cd.fact 40 (f := .glo "_law_state") rfl)⟩ B C_L_next_state 20
  have C_L_symbols := ok_L_symbols (P := P) (w := w) (base := base) ⟨D_L_symbols, He.glo_ok X G (cd.fact 41 (f := .glo "_law_symbols") rfl)⟩ B  40
  have C_L_size := ok_L_size (P := P) (w := w) (base := base) ⟨D_L_size, He.glo_ok X G (cd.fact 42 (f := .glo "_law_size") rfl)⟩ B C_L_symbols
  have C_L_places := ok_L_places (P := P) (w := w) (base := base) ⟨D_L_places, He.glo_ok X G (cd.fact 43 (f := .glo "_law_places") rfl)⟩ B  20
  have C_L_part := ok_L_part (P := P) (w := w) (base := base) ⟨D_L_part, He.glo_ok X G (cd.fact 44 (f := .glo "_law_part") rfl)⟩ B 
  have C_L_put := ok_L_put (P := P) (w := w) (base := base) ⟨D_L_put, He.glo_ok X G (cd.fact 45 (f := .glo "_law_put") rfl)⟩ B  20
  have C_L_reachable := ok_L_reachable (P := P) (w := w) (base := base) ⟨D_L_reachable, He.glo_ok X G (cd.fact 46 (f := .glo "_law_reachable") rfl)⟩ B C_L_next_state
  have C_L_seen := ok_L_seen (P := P) (w := w) (base := base) ⟨D_L_seen, He.glo_ok X G (cd.fact 47 (f := .glo "_law_seen") rfl)⟩ B C_L_next_state 20
  have C_L_handed := ok_L_handed (P := P) (w := w) (base := base) ⟨D_L_handed, He.glo_ok X G (cd.fact 48 (f := .glo "_law_handed") rfl)⟩ B C_L_seen C_L_next_state
  have C_L_sets := ok_L_sets (P := P) (w := w) (base := base) ⟨D_L_sets, He.glo_ok X G (cd.fact 49 (f := .glo "_law_sets") rfl)⟩ B C_L_seen C_L_handed 20
  have C_L_sets_along := ok_L_sets_along (P := P) (w := w) (base := base) ⟨D_L_sets_along, He.glo_ok X G (cd.fact 50 (f := .glo "_law_sets_along") rfl)⟩ B C_L_reachable C_L_sets
  have C_L_let_in := ok_L_let_in (P := P) (w := w) (base := base) ⟨D_L_let_in, He.glo_ok X G (cd.fact 51 (f := .glo "_law_let_in") rfl)⟩ B C_L_reachable C_L_sets_along C_L_seen C_L_part
  have C_L_replaced := ok_L_replaced (P := P) (w := w) (base := base) ⟨D_L_replaced, He.glo_ok X G (cd.fact 54 (f := .glo "_law_replaced") rfl)⟩ B 
  have C_L_swapped := ok_L_swapped (P := P) (w := w) (base := base) ⟨D_L_swapped, He.glo_ok X G (cd.fact 55 (f := .glo "_law_swapped") rfl)⟩ B C_L_part C_L_replaced C_L_put
  have C_L_why_not := ok_L_why_not (P := P) (w := w) (base := base) ⟨D_L_why_not, He.glo_ok X G (cd.fact 56 (f := .glo "_law_why_not") rfl)⟩ B C_L_swapped C_L_part C_L_size
  have C_L_entry := ok_L_entry (P := P) (w := w) (base := base) ⟨D_L_entry, He.glo_ok X G (cd.fact 57 (f := .glo "_law_entry") rfl)⟩ B C_L_replaced
  have C_L_behind := ok_L_behind (P := P) (w := w) (base := base) ⟨D_L_behind, He.glo_ok X G (cd.fact 58 (f := .glo "_law_behind") rfl)⟩ B C_L_entry C_L_swapped C_L_replaced
  have C_L_states := ok_L_states (P := P) (w := w) (base := base) ⟨D_L_states, He.glo_ok X G (cd.fact 59 (f := .glo "_law_states") rfl)⟩ B C_L_state
  have C_L_next := ok_L_next (P := P) (w := w) (base := base) ⟨D_L_next, He.glo_ok X G (cd.fact 33 (f := .glo "_law_next") rfl)⟩ B 
  have C_L_arities := ok_L_arities (P := P) (w := w) (base := base) ⟨D_L_arities, He.glo_ok X G (cd.fact 36 (f := .glo "_law_arities") rfl)⟩ B C_L_next
  have C_L_automaton := ok_L_automaton (P := P) (w := w) (base := base) ⟨D_L_automaton, He.glo_ok X G (cd.fact 37 (f := .glo "_law_automaton") rfl)⟩ B C_L_next
  have C_L_tree := ok_L_tree (P := P) (w := w) (base := base) ⟨D_L_tree, He.glo_ok X G (cd.fact 38 (f := .glo "_law_tree") rfl)⟩ B C_L_next 20
  have C_L_places_of := ok_L_places_of (P := P) (w := w) (base := base) ⟨D_L_places_of, He.glo_ok X G (cd.fact 52 (f := .glo "_law_places_of") rfl)⟩ B C_L_places C_L_next
  have C_L_command := ok_L_command (P := P) (w := w) (base := base) ⟨D_L_command, He.glo_ok X G (cd.fact 53 (f := .glo "_law_command") rfl)⟩ B C_L_next C_L_tree C_L_places_of
  have X_swapped := ok_swapped (P := P) (w := w) (base := base) ⟨D_swapped, He.glo_ok X G (cd.fact 29 (f := .glo "swapped") rfl)⟩ B Npx c_MOST_NODES_garden C_replaced C_part_at C_put_at C_size_of
  have X_behind := ok_behind (P := P) (w := w) (base := base) ⟨D_behind, He.glo_ok X G (cd.fact 30 (f := .glo "behind") rfl)⟩ B Npx c_MOST_TREES C_entry_with X_swapped C_replaced
  have M_act := ok_G_act (P := P) (w := w) (base := base) (Cn := He.ga K "NotPossible") D_Garden_act (He.meth_ok (cd.fact 94 (f := .meth "Garden" "act") rfl)) T B c_MOST_COMMANDS X_behind C_is_command
  have M_automaton := ok_G_automaton (P := P) (w := w) (base := base) D_Garden_automaton (He.meth_ok (cd.fact 95 (f := .meth "Garden" "automaton") rfl)) T B 
  have M_trees := ok_G_trees (P := P) (w := w) (base := base) D_Garden_trees (He.meth_ok (cd.fact 96 (f := .meth "Garden" "trees") rfl)) T B 
  have M_journal := ok_G_journal (P := P) (w := w) (base := base) D_Garden_journal (He.meth_ok (cd.fact 97 (f := .meth "Garden" "journal") rfl)) T B 
  have M_states := ok_G_states (P := P) (w := w) (base := base) D_Garden_states (He.meth_ok (cd.fact 98 (f := .meth "Garden" "states") rfl)) T B C_states_in
  have M_good := ok_G_good (P := P) (w := w) (base := base) D_Garden_good (He.meth_ok (cd.fact 99 (f := .meth "Garden" "good") rfl)) T B M_states M_automaton
  have M_let_in := ok_G_let_in (P := P) (w := w) (base := base) D_Garden_let_in (He.meth_ok (cd.fact 100 (f := .meth "Garden" "let_in") rfl)) T B c_MOST_DEPTH C_check_depth C_let_in M_trees M_automaton
  have C_L_told := ok_L_told (P := P) (w := w) (base := base) ⟨D_L_told, He.glo_ok X G (cd.fact 60 (f := .glo "_law_told") rfl)⟩ T Npx M_act
  have FS := ok_stream (P := P) (w := w) (base := base) D_L_stream B
  have FI := ok_gi (P := P) (w := w) (base := base) D_Garden_init T B C_check_automaton
  exact ok_law PL D_law FS (He.glo_ok X G (cd.fact 32 (f := .glo "_law_stream") rfl)) D_L_stream.kp (D_L_stream.bindsN fun _ _ _ _ _ _ us hl => match us, hl with | [_], _ => rfl) FI (He.mkr_ok (cd.fact 90 (f := .mkr "Garden") rfl)) (D_Garden_init.bindsN fun _ _ _ _ _ _ us hl => match us, hl with | [_, _], _ => rfl) gG C_L_arities C_L_automaton (by decide) (by decide) fun ω hC cdv A outer s H E hr =>
    xs_law T B C_L_states C_L_equal C_L_next C_L_command C_L_why_not C_L_behind C_L_told C_L_let_in M_automaton M_trees M_journal M_states M_good M_let_in ω hC cdv A outer s H E hr
end K7
open PySem PySem.W PySem.Calls PyProof.Rows
theorem K7.holds_of (PL : K7.PlainLaw) : PySem.Challenge.rw_rootfirst_k76_whole_commands_of_gardens.Holds := by
  w_on; o_law
  refine HandSHeadRun.head_any (r := OpenLaw.row PySem.Challenge.rw_rootfirst_k76_whole_commands_of_gardens) (q := view (OpenLaw.row PySem.Challenge.rw_rootfirst_k76_whole_commands_of_gardens).prog [86]) (H := K76.hk) (ob := K76.ob) (M := 4000) (loose := K76.loose) (d := HandSHeadRun.topDef (OpenLaw.row PySem.Challenge.rw_rootfirst_k76_whole_commands_of_gardens).prog 86) (kwd := []) K76.ob_eq
    (by kernel_rfl) (fun s => by kernel_rfl) K76.run (by kernel_rfl) (by kernel_rfl) (by kernel_rfl) (by rfl) (by first | assumption | decide +kernel) (by decide +kernel) ⟨rfl, rfl, rfl, rfl, rfl, by decide +kernel⟩ ?hw ?hc
  case hw => w_witness2
  case hc =>
    refine L2.walk_ofE (l := PySem.Challenge.rw_rootfirst_k76_whole_commands_of_gardens) (n := 63) (k := K7.kLaw + 1) (x := "_law_script") (CX := L2.CX0) rfl (by decide) (by kernel_rfl) ⟨rfl, by decide, by decide⟩ ?F (fun _ _ _ _ z => z)
    intro w mg fa h Y G hmg0
    obtain ⟨K, KX, c⟩ := Y
    have hmg : mg ("law" : PySem.Str) = some (.ref fa) := by
      have e : (HandSHeadRun.topDef (OpenLaw.row PySem.Challenge.rw_rootfirst_k76_whole_commands_of_gardens).prog 86).name = ("law" : PySem.Str) := by kernel_rfl
      rw [← e]
      exact hmg0
    obtain ⟨fd, hb, hF⟩ := K7.facts (P := (PySem.Challenge.rw_rootfirst_k76_whole_commands_of_gardens).prog) (w := w) PL KX G hmg c.t.d c.more
    exact ⟨K, fd, K7.spLaw K, KX, hb, fun H a ns hl _ hS => ⟨a, ns, rfl, hS, hl, fun _ => rfl⟩, hF⟩
end
section
set_option maxRecDepth 100000
/-! K76, plain law, part a: the combinators by equations; loops. -/
namespace K7
open PySem L2
def rgB (i j : Int) : Bool := decide (-(2 ^ 62) ≤ i ∧ i < 2 ^ 62 ∧ -(2 ^ 62) ≤ j ∧ j < 2 ^ 62)
theorem rgB_iff {i j : Int} : rgB i j = true ↔ (-(2 ^ 62) ≤ i ∧ i < 2 ^ 62 ∧ -(2 ^ 62) ≤ j ∧ j < 2 ^ 62) := by
  unfold rgB
  exact decide_eq_true_iff
@[simp] theorem rgB_ok {i j : Int} (h1 : 0 ≤ i) (h2 : i ≤ 1000) (h3 : 0 ≤ j) (h4 : j ≤ 1000) : rgB i j = true := by
  have e : (1000 : Int) < 2 ^ 62 := by decide
  have e' : -(2 ^ 62 : Int) ≤ 0 := by decide
  exact decide_eq_true ⟨Int.le_trans e' h1, Int.lt_of_le_of_lt h2 e, Int.le_trans e' h3, Int.lt_of_le_of_lt h4 e⟩
section
variable {S : Type} {ρ : List SV} {s : S}
@[simp] theorem fC_ {d : D} : fC d ρ s = some (d, s) := rfl
@[simp] theorem fN_ {i : Nat} : fN i ρ s = (match ρ[i]? with | some (.im d) => some (d, s) | _ => none) := rfl
@[simp] theorem fNw_ {i : Nat} : fNw i ρ s = (match ρ[i]? with | some (.im d) => some (d, s) | some (.ow ds) => some (.lst ds, s) | some (.od ks) => some (.dic ks, s) | _ => none) := rfl
@[simp] theorem aNil_ : aNil ρ s = some ([], s) := rfl
@[simp] theorem aCons_ {fa : EF S} {fr : AF S} : aCons fa fr ρ s = (fa ρ s).bind fun p => (fr ρ p.2).map fun q => (p.1 :: q.1, q.2) := rfl
@[simp] theorem fTup_ {fs : AF S} : fTup fs ρ s = (fs ρ s).bind fun p => if p.1.length ≤ 100000 then some (.tup p.1, p.2) else none := rfl
@[simp] theorem fLst_ {fs : AF S} : fLst fs ρ s = (fs ρ s).bind fun p => if p.1.length ≤ 100000 then some (.lst p.1, p.2) else none := rfl
@[simp] theorem fBin_ {op : D → D → Option D} {fa fb : EF S} : fBin op fa fb ρ s = (fa ρ s).bind fun p => (fb ρ p.2).bind fun q => (op p.1 q.1).map fun d => (d, q.2) := rfl
@[simp] theorem fUn_ {op : D → Option D} {fa : EF S} : fUn op fa ρ s = (fa ρ s).bind fun p => (op p.1).map fun d => (d, p.2) := rfl
@[simp] theorem fT_ {f : EF S} : fT f ρ s = (f ρ s).bind fun p => match p.1 with | .bl b => some (b, p.2) | _ => none := rfl
@[simp] theorem fTru_ {f : EF S} : fTru f ρ s = (f ρ s).bind fun p => (dTru p.1).map fun b => (b, p.2) := rfl
@[simp] theorem fAndT_ {fa fb : TF S} : fAndT fa fb ρ s = (fa ρ s).bind fun p => if p.1 = true then fb ρ p.2 else some (false, p.2) := rfl
@[simp] theorem fOrT_ {fa fb : TF S} : fOrT fa fb ρ s = (fa ρ s).bind fun p => if p.1 = true then some (true, p.2) else fb ρ p.2 := rfl
@[simp] theorem fNotT_ {fa : TF S} : fNotT fa ρ s = (fa ρ s).map fun p => (!p.1, p.2) := rfl
@[simp] theorem fAndV_ {fa fb : EF S} : fAndV fa fb ρ s = (fa ρ s).bind fun p => match p.1 with | .bl true => fb ρ p.2 | .bl false => some (.bl false, p.2) | _ => none := rfl
@[simp] theorem fOrV_ {fa fb : EF S} : fOrV fa fb ρ s = (fa ρ s).bind fun p => match p.1 with | .bl true => some (.bl true, p.2) | .bl false => fb ρ p.2 | _ => none := rfl
@[simp] theorem fNotV_ {fa : EF S} : fNotV fa ρ s = (fa ρ s).bind fun p => match p.1 with | .bl b => some (.bl !b, p.2) | _ => none := rfl
@[simp] theorem fChain_ {f g : D → D → Option D} {fa fb fc : EF S} : fChain f g fa fb fc ρ s = (fa ρ s).bind fun p => (fb ρ p.2).bind fun q => match f p.1 q.1 with
  | some (.bl true) => (fc ρ q.2).bind fun r => (g q.1 r.1).map fun d => (d, r.2)
  | some (.bl false) => some (.bl false, q.2)
  | _ => none := rfl
@[simp] theorem oNo_ : oNo ρ s = some (none, s) := rfl
@[simp] theorem oSome_ {f : EF S} : oSome f ρ s = (f ρ s).bind fun p => match p.1 with | .int i => some (some i, p.2) | _ => none := rfl
@[simp] theorem fSl_ {fa : EF S} {fl fh : OF S} : fSl fa fl fh ρ s = (fa ρ s).bind fun p => (fl ρ p.2).bind fun q => (fh ρ q.2).bind fun r => (dSlice p.1 q.1 r.1).map fun d => (d, r.2) := rfl
@[simp] theorem fCall_ {n : Nat} {m : List D → Option D} {fs : AF S} : fCall n m fs ρ s = (fs ρ s).bind fun p => if p.1.length = n then (m p.1).map fun d => (d, p.2) else none := rfl
@[simp] theorem fCallW_ {n : Nat} {m : List D → S → Option (D × S)} {fs : AF S} : fCallW n m fs ρ s = (fs ρ s).bind fun p => if p.1.length = n then m p.1 p.2 else none := rfl
@[simp] theorem fNext_ : fNext ρ s = .nx ρ s := rfl
@[simp] theorem fSeq_ {f g : SF S} : fSeq f g ρ s = (match f ρ s with | .nx ρ' s' => g ρ' s' | .rt d s' => .rt d s' | .np y s' => .np y s' | .no => .no) := rfl
@[simp] theorem fRet_ {fe : EF S} : fRet fe ρ s = (match fe ρ s with | some (d, s') => .rt d s' | none => .no) := rfl
@[simp] theorem fIf_ {fc : TF S} {f g : SF S} : fIf fc f g ρ s = (match fc ρ s with | some (b, s') => if b = true then f ρ s' else g ρ s' | none => .no) := rfl
@[simp] theorem fAsg_ {fe : EF S} {gf : GF} : fAsg fe gf ρ s = (match fe ρ s with | some (d, s') => (match gf d ρ with | some ρ' => .nx ρ' s' | none => .no) | none => .no) := rfl
@[simp] theorem gN_ {j : Nat} {d : D} : gN j d ρ = some (ρ.set j (.im d)) := rfl
@[simp] theorem gsNil_ {ds : List D} : gsNil ds ρ = (match ds with | [] => some ρ | _ => none) := rfl
@[simp] theorem gsCons_ {j : Nat} {f : GFs} {ds : List D} : gsCons j f ds ρ = (match ds with | d :: r => f r (ρ.set j (.im d)) | _ => none) := rfl
@[simp] theorem gT_ {n : Nat} {f : GFs} {d : D} : gT n f d ρ = (match d with | .tup ds => if ds.length = n then f ds ρ else none | _ => none) := rfl
@[simp] theorem fYes_ : fYes ρ s = some (true, s) := rfl
@[simp] theorem sSeq_ {fa : EF S} : sSeq fa ρ s = (fa ρ s).bind fun p => (seq? p.1).map fun ds => (ds, p.2) := rfl
@[simp] theorem fOwn_ {i : Nat} {fs : AF S} : fOwn i fs ρ s = (match fs ρ s with | some (ds, s') => if ds.length ≤ 100000 ∧ i < ρ.length then .nx (ρ.set i (.ow ds)) s' else .no | none => .no) := rfl
@[simp] theorem fOwnD_ {i : Nat} : fOwnD i ρ s = (if i < ρ.length then .nx (ρ.set i (.od [])) s else .no) := rfl
@[simp] theorem fRetO_ {i : Nat} : fRetO i ρ s = (match ρ[i]? with | some (.ow ds) => .rt (.lst ds) s | some (.im d) => .rt d s | _ => .no) := rfl
@[simp] theorem fApp_ {i : Nat} {fe : EF S} : fApp i fe ρ s = (match ρ[i]? with | some (.ow ds) => (match fe ρ s with | some (d, s') => if ds.length < 100000 then .nx (ρ.set i (.ow (ds ++ [d]))) s' else .no | none => .no) | _ => .no) := rfl
@[simp] theorem fExt_ {i : Nat} {fe : EF S} : fExt i fe ρ s = (match ρ[i]? with | some (.ow ds) => (match fe ρ s with | some (d, s') => (match seq? d with | some es => if ds.length + es.length ≤ 100000 then .nx (ρ.set i (.ow (ds ++ es))) s' else .no | none => .no) | none => .no) | _ => .no) := rfl
@[simp] theorem fPop_ {i : Nat} {gf : GF} : fPop i gf ρ s = (match ρ[i]? with | some (.ow ds) => (match ds[ds.length - 1]? with | some d => (match gf d (ρ.set i (.ow ds.dropLast)) with | some ρ' => .nx ρ' s | none => .no) | none => .no) | _ => .no) := rfl
@[simp] theorem fPutD_ {i : Nat} {fe : EF S} : fPutD i fe ρ s = (match ρ[i]? with | some (.od ks) => (match fe ρ s with | some (.int k, s') => if ks.length < 100000 then .nx (ρ.set i (.od (kput ks k))) s' else .no | _ => .no) | _ => .no) := rfl
@[simp] theorem fPar_ {i j : Nat} {fs : AF S} : fPar i j fs ρ s = (match fs ρ s with | some ([d, d'], s') => .nx ((ρ.set i (.im d)).set j (.im d')) s' | _ => .no) := rfl
@[simp] theorem sRg1_ {fa : EF S} : sRg1 fa ρ s = (fa ρ s).bind fun p => (match p.1 with | .int j => if rgB 0 j = true then some (rgD 0 j.toNat, p.2) else none | _ => none) := by
  unfold sRg1
  congr 1
  funext p
  cases p.1 with
  | int j =>
    show (if _ then _ else _) = (if rgB 0 j = true then some (rgD 0 j.toNat, p.2) else none)
    have h0 : -(2 ^ 62 : Int) ≤ 0 := by decide
    have h1 : (0 : Int) < 2 ^ 62 := by decide
    by_cases h : -(2 ^ 62) ≤ j ∧ j < 2 ^ 62
    · rw [if_pos h, if_pos (rgB_iff.mpr ⟨h0, h1, h.1, h.2⟩)]
    · rw [if_neg h, if_neg (fun z => h ⟨(rgB_iff.mp z).2.2.1, (rgB_iff.mp z).2.2.2⟩)]
  | _ => rfl
@[simp] theorem sRg2_ {fa fb : EF S} : sRg2 fa fb ρ s = (fa ρ s).bind fun p => (fb ρ p.2).bind fun q => (match p.1, q.1 with | .int i, .int j => if rgB i j = true then some (rgD i (j - i).toNat, q.2) else none | _, _ => none) := by
  unfold sRg2
  congr 1
  funext p
  congr 1
  funext q
  cases p.1 with
  | int i =>
    cases q.1 with
    | int j =>
      show (if _ then _ else _) = (if rgB i j = true then some (rgD i (j - i).toNat, q.2) else none)
      by_cases h : -(2 ^ 62) ≤ i ∧ i < 2 ^ 62 ∧ -(2 ^ 62) ≤ j ∧ j < 2 ^ 62
      · rw [if_pos h, if_pos (rgB_iff.mpr h)]
      · rw [if_neg h, if_neg (fun z => h (rgB_iff.mp z))]
    | _ => rfl
  | _ => rfl
@[simp] theorem sEnum_ {fa : EF S} : sEnum fa ρ s = (fa ρ s).bind fun p => (seq? p.1).map fun ds => (ds.mapIdx fun (i : Nat) d => .tup [.int i, d], p.2) := rfl
@[simp] theorem fDrop_ {fe : EF S} : fDrop fe ρ s = (match fe ρ s with | some (_, s') => .nx ρ s' | none => .no) := rfl
@[simp] theorem fFor_ {fi : AF S} {gf : GF} {fb : SF S} : fFor fi gf fb ρ s = (match fi ρ s with | some (ds, s') => forGo gf fb ds ρ s' | none => .no) := rfl
@[simp] theorem fLc_ {fi : AF S} {gf : GF} {ft : TF S} {fe : EF S} {vs : List Nat} : fLc fi gf ft fe vs ρ s = (if vs.all (notOwn ρ) = true then (fi ρ s).bind fun p => if p.1.length ≤ 100000 then (lcGo gf ft fe (wipeS ρ vs) p.1 p.2).map fun q => (.lst q.1, q.2) else none else none) := rfl
@[simp] theorem wipeS_nil : wipeS ρ [] = ρ := rfl
@[simp] theorem wipeS_cons {v : Nat} {vs : List Nat} : wipeS ρ (v :: vs) = (wipeS ρ vs).set v .un := rfl
@[simp] theorem notOwn_ {v : Nat} : notOwn ρ v = (match ρ[v]? with | some x => !x.own | none => true) := rfl
@[simp] theorem own_un : SV.own .un = false := rfl
@[simp] theorem own_im {d : D} : SV.own (.im d) = false := rfl
@[simp] theorem own_ow {d : List D} : SV.own (.ow d) = true := rfl
@[simp] theorem own_od {d : List Int} : SV.own (.od d) = true := rfl
end
/-! ### operations -/
section
variable {i j : Int} {x y : D} {xs ys : List D} {ns ms : List Int} {b : Bool} {z z' : Str}
@[simp] theorem add_i : dAdd (.int i) (.int j) = some (.int (i + j)) := rfl
@[simp] theorem add_t : dAdd (.tup xs) (.tup ys) = if xs.length + ys.length ≤ 100000 then some (.tup (xs ++ ys)) else none := rfl
@[simp] theorem add_l : dAdd (.lst xs) (.lst ys) = if xs.length + ys.length ≤ 100000 then some (.lst (xs ++ ys)) else none := rfl
@[simp] theorem sub_i : dSub (.int i) (.int j) = some (.int (i - j)) := rfl
@[simp] theorem neg_i : dNeg (.int i) = some (.int (-i)) := rfl
@[simp] theorem lt_i : dLt (.int i) (.int j) = some (.bl (decide (i < j))) := rfl
@[simp] theorem le_i : dLe (.int i) (.int j) = some (.bl (decide (i ≤ j))) := rfl
@[simp] theorem gt_i : dGt (.int i) (.int j) = some (.bl (decide (j < i))) := rfl
@[simp] theorem ge_i : dGe (.int i) (.int j) = some (.bl (decide (j ≤ i))) := rfl
@[simp] theorem eq_i : dEq (.int i) (.int j) = some (.bl (decide (i = j))) := rfl
@[simp] theorem ne_i : dNe (.int i) (.int j) = some (.bl (!decide (i = j))) := rfl
@[simp] theorem eq_b {c : Bool} : dEq (.bl b) (.bl c) = some (.bl (decide (b = c))) := rfl
@[simp] theorem eq_s : dEq (.str z) (.str z') = some (.bl (decide (z = z'))) := rfl
@[simp] theorem ne_s : dNe (.str z) (.str z') = some (.bl (!decide (z = z'))) := rfl
@[simp] theorem eq_t : dEq (.tup (ns.map D.int)) (.tup (ms.map D.int)) = some (.bl (decide (ns = ms))) := by simp [dEq, dEqB]
theorem ints_nil : ints? [] = some [] := rfl
@[simp] theorem eq_t0 : dEq (.tup (ns.map D.int)) (.tup []) = some (.bl (decide (ns = []))) := by
  have := eq_t (ns := ns) (ms := [])
  simpa using this
@[simp] theorem isN_non : dIsN .non .non = some (.bl true) := rfl
@[simp] theorem isN_t : dIsN (.tup xs) .non = some (.bl false) := rfl
@[simp] theorem isN_i : dIsN (.int i) .non = some (.bl false) := rfl
@[simp] theorem isN_b : dIsN (.bl b) .non = some (.bl false) := rfl
@[simp] theorem isN_s : dIsN (.str z) .non = some (.bl false) := rfl
@[simp] theorem isN_l : dIsN (.lst xs) .non = some (.bl false) := rfl
@[simp] theorem isNt_ : dIsNot x y = (match dIsN x y with | some (.bl b) => some (.bl !b) | _ => none) := rfl
@[simp] theorem seq_t : seq? (.tup xs) = some xs := rfl
@[simp] theorem seq_l : seq? (.lst xs) = some xs := rfl
@[simp] theorem in_t : dIn (.int i) (.tup (ns.map D.int)) = some (.bl (decide (i ∈ ns))) := by simp [dIn, dInB]
@[simp] theorem in_l : dIn (.int i) (.lst (ns.map D.int)) = some (.bl (decide (i ∈ ns))) := by simp [dIn, dInB]
@[simp] theorem nin_l : dNotIn (.int i) (.lst (ns.map D.int)) = some (.bl (!decide (i ∈ ns))) := by simp [dNotIn, dInB]
@[simp] theorem item_t : dItem (.tup xs) (.int i) = atI xs i := rfl
@[simp] theorem item_l : dItem (.lst xs) (.int i) = atI xs i := rfl
@[simp] theorem slice_t {lo hi : Option Int} : dSlice (.tup xs) lo hi = some (.tup (dCut xs lo hi)) := rfl
@[simp] theorem len_t : dLen (.tup xs) = some (.int xs.length) := rfl
@[simp] theorem len_l : dLen (.lst xs) = some (.int xs.length) := rfl
@[simp] theorem len_d : dLen (.dic ns) = some (.int ns.length) := rfl
@[simp] theorem abs_i : dAbs (.int i) = some (.int (if i < 0 then -i else i)) := rfl
@[simp] theorem int_i : dToInt (.int i) = some (.int i) := rfl
@[simp] theorem int_b : dToInt (.bl b) = some (.int (if b then 1 else 0)) := rfl
@[simp] theorem max_i : dMax2 (.int i) (.int j) = some (.int (if j > i then j else i)) := rfl
@[simp] theorem tuple_t : dTuple (.tup xs) = some (.tup xs) := rfl
@[simp] theorem tuple_l : dTuple (.lst xs) = some (.tup xs) := rfl
@[simp] theorem list_t : dList (.tup xs) = some (.lst xs) := rfl
@[simp] theorem list_l : dList (.lst xs) = some (.lst xs) := rfl
@[simp] theorem sorted_l : dSorted (.lst (ns.map D.int)) = some (.lst ((isort ns).map D.int)) := by simp [dSorted]
theorem sorted_d (h : ns.length < 64) : dSorted (.dic ns) = some (.lst ((isort ns).map D.int)) := if_pos h
@[simp] theorem sum_l : dSum (.lst (ns.map D.int)) = some (.int ns.sum) := by simp [dSum]
@[simp] theorem any_l {bs : List Bool} : dAny (.lst (bs.map D.bl)) = some (.bl (bs.any id)) := by simp [dAny]
@[simp] theorem all_l {bs : List Bool} : dAll (.lst (bs.map D.bl)) = some (.bl (bs.all id)) := by simp [dAll]
@[simp] theorem tru_b : dTru (.bl b) = some b := rfl
@[simp] theorem tru_t : dTru (.tup xs) = some (!xs.isEmpty) := rfl
@[simp] theorem tru_l : dTru (.lst xs) = some (!xs.isEmpty) := rfl
theorem kb1 : kitB "int" "int" = some true := by decide +kernel
theorem kb2 : kitB "int" "bool" = some false := by decide +kernel
theorem kb3 : kitB "bool" "bool" = some true := by decide +kernel
theorem kb4 : kitB "bool" "int" = some true := by decide +kernel
theorem kb5 : kitB "tuple" "tuple" = some true := by decide +kernel
theorem kb6 : kitB "str" "str" = some true := by decide +kernel
theorem kb7 : kitB "list" "list" = some true := by decide +kernel
theorem kb8 : kitB "str" "bool" = some false := by decide +kernel
theorem kb9 : kitB "str" "int" = some false := by decide +kernel
theorem kb10 : kitB "tuple" "bool" = some false := by decide +kernel
theorem kb11 : kitB "tuple" "int" = some false := by decide +kernel
theorem kb12 : kitB "tuple" "str" = some false := by decide +kernel
theorem kb13 : kitB "list" "bool" = some false := by decide +kernel
theorem kb14 : kitB "list" "int" = some false := by decide +kernel
theorem kb15 : kitB "list" "str" = some false := by decide +kernel
theorem kb16 : kitB "list" "tuple" = some false := by decide +kernel
theorem kb17 : kitB "tuple" "list" = some false := by decide +kernel
@[simp] theorem is1 : dIsi "int" (.int i) = some (.bl true) := by simp [dIsi, dTy, kb1]
@[simp] theorem is2 : dIsi "bool" (.int i) = some (.bl false) := by simp [dIsi, dTy, kb2]
@[simp] theorem is3 : dIsi "bool" (.bl b) = some (.bl true) := by simp [dIsi, dTy, kb3]
@[simp] theorem is5 : dIsi "tuple" (.tup xs) = some (.bl true) := by simp [dIsi, dTy, kb5]
@[simp] theorem is6 : dIsi "str" (.str z) = some (.bl true) := by simp [dIsi, dTy, kb6]
@[simp] theorem is7 : dIsi "list" (.lst xs) = some (.bl true) := by simp [dIsi, dTy, kb7]
@[simp] theorem is8 : dIsi "bool" (.str z) = some (.bl false) := by simp [dIsi, dTy, kb8]
@[simp] theorem is9 : dIsi "int" (.str z) = some (.bl false) := by simp [dIsi, dTy, kb9]
@[simp] theorem is10 : dIsi "bool" (.tup xs) = some (.bl false) := by simp [dIsi, dTy, kb10]
@[simp] theorem is11 : dIsi "int" (.tup xs) = some (.bl false) := by simp [dIsi, dTy, kb11]
@[simp] theorem is12 : dIsi "str" (.tup xs) = some (.bl false) := by simp [dIsi, dTy, kb12]
@[simp] theorem is13 : dIsi "bool" (.lst xs) = some (.bl false) := by simp [dIsi, dTy, kb13]
@[simp] theorem is14 : dIsi "int" (.lst xs) = some (.bl false) := by simp [dIsi, dTy, kb14]
@[simp] theorem is15 : dIsi "str" (.lst xs) = some (.bl false) := by simp [dIsi, dTy, kb15]
@[simp] theorem is16 : dIsi "tuple" (.lst xs) = some (.bl false) := by simp [dIsi, dTy, kb16]
@[simp] theorem is17 : dIsi "list" (.tup xs) = some (.bl false) := by simp [dIsi, dTy, kb17]
end
@[simp] theorem n1_0 (n : Nat) : ((n : Int) + 1 = 0) = False := by simp; omega
@[simp] theorem n2_0 (n : Nat) : ((n : Int) + 1 + 1 = 0) = False := by simp; omega
/-! ### places in lists -/
section
variable {α β : Type} {xs : List α} {i : Int} {k : Nat}
theorem atI_nn (h : 0 ≤ i) : atI xs i = xs[i.toNat]? := by
  unfold atI ixN
  rw [if_pos h]
  split
  · rfl
  · rw [List.getElem?_eq_none (by omega)]
    rfl
@[simp] theorem atI_nat : atI xs (k : Int) = xs[k]? := by rw [atI_nn (by omega)]; rfl
@[simp] theorem atI_0 : atI xs 0 = xs[0]? := atI_nn (by decide)
@[simp] theorem atI_1 : atI xs 1 = xs[1]? := atI_nn (by decide)
@[simp] theorem atI_2 : atI xs 2 = xs[2]? := atI_nn (by decide)
@[simp] theorem atI_3 : atI xs 3 = xs[3]? := atI_nn (by decide)
@[simp] theorem atI_4 : atI xs 4 = xs[4]? := atI_nn (by decide)
theorem atI_map {f : α → β} : atI (xs.map f) i = (atI xs i).map f := by
  unfold atI
  rw [List.length_map]
  cases ixN xs.length i with
  | none => rfl
  | some j => simp
end
/-! ### cuts -/
section
variable {xs : List D} {k : Nat} {i : Int}
theorem sIx_nn {n d : Nat} (h : 0 ≤ i) : HT.sIx n d (some i) = min i.toNat n := if_neg (by omega)
theorem cut_from (h : 0 ≤ i) : dCut xs (some i) none = xs.drop i.toNat := by
  unfold dCut
  rw [sIx_nn h, HT.sIx_none]
  by_cases hk : i.toNat ≤ xs.length
  · rw [Nat.min_eq_left hk, List.take_of_length_le (by simp)]
  · rw [Nat.min_eq_right (by omega), List.drop_eq_nil_of_le (by omega), List.drop_eq_nil_of_le (by omega), List.take_nil]
theorem cut_to (h : 0 ≤ i) : dCut xs none (some i) = xs.take i.toNat := by
  unfold dCut
  rw [sIx_nn h, HT.sIx_none, List.drop_zero, Nat.sub_zero]
  by_cases hk : i.toNat ≤ xs.length
  · rw [Nat.min_eq_left hk]
  · rw [Nat.min_eq_right (by omega), List.take_of_length_le (by omega), List.take_of_length_le (by omega)]
@[simp] theorem cut_from1 : dCut xs (some 1) none = xs.drop 1 := cut_from (by decide)
@[simp] theorem cut_from2 : dCut xs (some 2) none = xs.drop 2 := cut_from (by decide)
@[simp] theorem cut_from3 : dCut xs (some 3) none = xs.drop 3 := cut_from (by decide)
@[simp] theorem cut_to1 : dCut xs none (some 1) = xs.take 1 := cut_to (by decide)
@[simp] theorem cut_to2 : dCut xs none (some 2) = xs.take 2 := cut_to (by decide)
@[simp] theorem cut_to3 : dCut xs none (some 3) = xs.take 3 := cut_to (by decide)
@[simp] theorem cut_nn (h : 0 ≤ i) : dCut xs none (some i) = xs.take i.toNat := cut_to h
@[simp] theorem cut_fn (h : 0 ≤ i) : dCut xs (some i) none = xs.drop i.toNat := cut_from h
end
/-! ### comprehensions -/
section
variable {α : Type} {S : Type} {ρ : List SV} {s : S}
/-- by a map, every item told -/
theorem lc_map {gf : GF} {fe : EF S} {enc g : α → D} : ∀ {xs : List α}, (∀ x ∈ xs, ∃ ρ1, gf (enc x) ρ = some ρ1 ∧ fe ρ1 s = some (g x, s)) → lcGo gf fYes fe ρ (xs.map enc) s = some (xs.map g, s)
  | [], _ => rfl
  | x :: xs, h => by
    obtain ⟨ρ1, h1, h2⟩ := h x List.mem_cons_self
    have ih := lc_map (xs := xs) fun y hy => h y (List.mem_cons_of_mem _ hy)
    simp [lcGo, h1, h2, ih]
/-- with a test -/
theorem lc_filter {gf : GF} {ft : TF S} {fe : EF S} {enc g : α → D} {p : α → Bool} : ∀ {xs : List α}, (∀ x ∈ xs, ∃ ρ1, gf (enc x) ρ = some ρ1 ∧ ft ρ1 s = some (p x, s) ∧ fe ρ1 s = some (g x, s)) → lcGo gf ft fe ρ (xs.map enc) s = some ((xs.filter p).map g, s)
  | [], _ => rfl
  | x :: xs, h => by
    obtain ⟨ρ1, h1, h2, h3⟩ := h x List.mem_cons_self
    have ih := lc_filter (xs := xs) fun y hy => h y (List.mem_cons_of_mem _ hy)
    cases hp : p x with
    | true => simp [lcGo, h1, h2, h3, ih, hp]
    | false => simp [lcGo, h1, h2, h3, ih, hp]
/-- loops -/
theorem for_inv {gf : GF} {fb : SF S} {enc : α → D} (Pv : List α → List SV → S → Prop) : ∀ {xs : List α} {ρ : List SV} {s : S}, Pv xs ρ s →
    (∀ x r ρ s, Pv (x :: r) ρ s → ∃ ρ1, gf (enc x) ρ = some ρ1 ∧ ∃ ρ2 s2, fb ρ1 s = .nx ρ2 s2 ∧ Pv r ρ2 s2) → ∃ ρ' s', forGo gf fb (xs.map enc) ρ s = .nx ρ' s' ∧ Pv [] ρ' s'
  | [], ρ, s, h, _ => ⟨ρ, s, rfl, h⟩
  | x :: xs, ρ, s, h, step => by
    obtain ⟨ρ1, h1, ρ2, s2, h2, h3⟩ := step x xs ρ s h
    obtain ⟨ρ', s', h4, h5⟩ := for_inv Pv h3 step
    exact ⟨ρ', s', by simp only [List.map_cons, forGo, h1, h2, h4], h5⟩
end
/-! ### step by step -/
theorem rg_of {S : Type} {fa : EF S} {ρ : List SV} {s s' : S} (n : Nat) (h : n ≤ 1000) (e : fa ρ s = some (.int (n : Int), s')) : sRg1 fa ρ s = some (rgD 0 n, s') := by
  rw [sRg1_, e, Option.bind_some]
  show (if rgB 0 (n : Int) = true then some (rgD 0 (n : Int).toNat, s') else none) = _
  rw [if_pos (rgB_ok (by decide) (by decide) (by omega) (by omega)), Int.toNat_natCast]
section
variable {S : Type} {ρ ρ' ρ1 ρ2 : List SV} {s s' s2 : S} {f g fb : SF S} {fi : AF S} {gf : GF} {d : D} {ds : List D}
theorem seq_nx (h : f ρ s = .nx ρ' s') : fSeq f g ρ s = g ρ' s' := by rw [fSeq_, h]
theorem seq_rt (h : f ρ s = .rt d s') : fSeq f g ρ s = .rt d s' := by rw [fSeq_, h]
theorem for_go (h : fi ρ s = some (ds, s')) : fFor fi gf fb ρ s = forGo gf fb ds ρ s' := by rw [fFor_, h]
theorem go_nil : forGo gf fb [] ρ s = .nx ρ s := rfl
theorem go_nx (h1 : gf d ρ = some ρ1) (h2 : fb ρ1 s = .nx ρ2 s2) : forGo gf fb (d :: ds) ρ s = forGo gf fb ds ρ2 s2 := by simp only [forGo, h1, h2]
theorem go_rt (h1 : gf d ρ = some ρ1) {x : D} (h2 : fb ρ1 s = .rt x s2) : forGo gf fb (d :: ds) ρ s = .rt x s2 := by simp only [forGo, h1, h2]
theorem run_rt {n : Nat} {f : SF Unit} {xs : List D} (h : f (xs.map SV.im ++ List.replicate (n - xs.length) SV.un) () = .rt d ()) : runP n f xs = some d := by
  unfold runP
  rw [h]
theorem call_of {n : Nat} {m : List D → Option D} {fs : AF S} {xs : List D} (h1 : fs ρ s = some (xs, s')) (hn : xs.length = n) (h : m xs = some d) : fCall n m fs ρ s = some (d, s') := by simp [h1, hn, h]
theorem set_of {fe : EF S} {i : Nat} (h : fe ρ s = some (d, s')) : fAsg fe (gN i) ρ s = .nx (ρ.set i (.im d)) s' := by simp [h]
theorem seqq_of {fa : EF S} (h : fa ρ s = some (d, s')) (hd : seq? d = some ds) : sSeq fa ρ s = some (ds, s') := by simp [h, hd]
theorem if_t {fc : TF S} (h : fc ρ s = some (true, s')) : fIf fc f g ρ s = f ρ s' := by simp [h]
theorem if_f {fc : TF S} (h : fc ρ s = some (false, s')) : fIf fc f g ρ s = g ρ s' := by simp [h]
end
end K7
end
section
set_option maxRecDepth 100000
/-! K76, plain law, part b: trees, places. -/
namespace K7
open PySem L2
inductive T where
  | a (s : Int) | b (s : Int) (x : T) | c (s : Int) (x y : T)
namespace T
def d : T → D
  | .a s => .tup [.int s]
  | .b s x => .tup [.int s, x.d]
  | .c s x y => .tup [.int s, x.d, y.d]
def size : T → Nat
  | .a _ => 1
  | .b _ x => 1 + x.size
  | .c _ x y => 1 + x.size + y.size
def sym : T → Int
  | .a s => s
  | .b s _ => s
  | .c s _ _ => s
def kids : T → List T
  | .a _ => []
  | .b _ x => [x]
  | .c _ x y => [x, y]
theorem d_eq (t : T) : t.d = .tup (.int t.sym :: t.kids.map T.d) := by cases t <;> rfl
theorem size_pos (t : T) : 0 < t.size := by cases t <;> simp [size] <;> omega
theorem size_kids (t : T) : t.size = 1 + (t.kids.map size).sum := by
  cases t with
  | a s => rfl
  | b s x => simp [size, kids]
  | c s x y => simp [size, kids]; omega
theorem kid_lt {t u : T} (h : u ∈ t.kids) : u.size < t.size := by
  cases t with
  | a s => cases h
  | b s x =>
    simp [kids] at h
    subst h
    simp [size]
  | c s x y =>
    simp [kids] at h
    rcases h with rfl | rfl <;> simp [size] <;> omega
theorem kids_len (t : T) : t.kids.length ≤ 2 := by cases t <;> simp [kids]
/-- the part at a place -/
def sub (t : T) : List Int → Option T
  | [] => some t
  | k :: p => match t, k with
    | .b _ x, 0 => sub x p
    | .c _ x _, 0 => sub x p
    | .c _ _ y, 1 => sub y p
    | _, _ => none
def put (t : T) : List Int → T → T
  | [], u => u
  | k :: p, u => match t, k with
    | .b s x, 0 => .b s (put x p u)
    | .c s x y, 0 => .c s (put x p u) y
    | .c s x y, 1 => .c s x (put y p u)
    | t, _ => t
end T
/-- a place: zeros and ones -/
def Pl (p : List Int) : Prop := ∀ k ∈ p, k = 0 ∨ k = 1
theorem Pl.tail {k : Int} {p : List Int} (h : Pl (k :: p)) : Pl p := fun j hj => h j (List.mem_cons_of_mem _ hj)
theorem Pl.head {k : Int} {p : List Int} (h : Pl (k :: p)) : k = 0 ∨ k = 1 := h k List.mem_cons_self
def pd (p : List Int) : D := .tup (p.map D.int)
def td : Option T → D
  | some t => t.d
  | none => .non
@[simp] theorem T.sub_nil (t : T) : t.sub [] = some t := by cases t <;> rfl
@[simp] theorem T.put_nil (t u : T) : t.put [] u = u := by cases t <;> rfl
/-- a child by number -/
def T.kid (t : T) (k : Int) : Option T := t.kids[k.toNat]?
theorem T.sub_cons (t : T) {k : Int} (h : k = 0 ∨ k = 1) (p : List Int) : t.sub (k :: p) = (t.kid k).bind fun u => u.sub p := by
  rcases h with rfl | rfl <;> cases t <;> simp [sub, kid, kids]
theorem kid_d (t : T) {k : Int} (h : k = 0 ∨ k = 1) : atI (D.int t.sym :: t.kids.map T.d) (k + 1) = (t.kid k).map T.d := by
  rcases h with rfl | rfl <;> cases t <;> simp [T.kid, T.kids] <;> rfl
theorem kid_some (t : T) {k : Int} (h : k = 0 ∨ k = 1) : (t.kid k).isSome = decide (k + 1 < 1 + t.kids.length) := by
  rcases h with rfl | rfl <;> cases t <;> simp [T.kid, T.kids]
/-! ### part_at -/
theorem part_at_m {t : T} {p : List Int} (hp : Pl p) : m_part_at [t.d, pd p] = some (td (t.sub p)) := by
  have key : ∀ (p : List Int) (t : T) (d0 d1 : D) (j : SV), Pl p →
      (∀ u, t.sub p = some u → ∃ j', forGo (gN 3) (fSeq (fIf (fT (fBin dLt (fUn dLen (fNw 2)) (fBin dAdd (fNw 3) (fC (.int 2))))) (fRet (fC .non)) fNext) (fAsg (fBin dItem (fNw 2) (fBin dAdd (fNw 3) (fC (.int 1)))) (gN 2))) (p.map D.int) [.im d0, .im d1, .im t.d, j] () = .nx [.im d0, .im d1, .im u.d, j'] ()) ∧
      (t.sub p = none → forGo (gN 3) (fSeq (fIf (fT (fBin dLt (fUn dLen (fNw 2)) (fBin dAdd (fNw 3) (fC (.int 2))))) (fRet (fC .non)) fNext) (fAsg (fBin dItem (fNw 2) (fBin dAdd (fNw 3) (fC (.int 1)))) (gN 2))) (p.map D.int) [.im d0, .im d1, .im t.d, j] () = .rt .non ()) := by
    intro p
    induction p with
    | nil =>
      intro t d0 d1 j _
      rw [T.sub_nil]
      exact ⟨fun u h => ⟨j, by cases h; rfl⟩, fun h => by cases h⟩
    | cons k p ih =>
      intro t d0 d1 j h
      have hk := h.head
      have e1 := kid_d t hk
      have e2 := kid_some t hk
      rw [t.sub_cons hk]
      have hd := t.d_eq
      cases hq : t.kid k with
      | none =>
        rw [hq] at e2
        have e3 : ¬ (k + 1 < 1 + (t.kids.length : Int)) := by simpa using e2.symm
        refine ⟨fun u h => (nomatch h), fun _ => ?_⟩
        simp [forGo, hd, show (t.kids.length : Int) + 1 < k + 2 by omega]
      | some u =>
        rw [hq] at e1 e2
        have e3 : k + 1 < 1 + (t.kids.length : Int) := by simpa using e2.symm
        obtain ⟨i1, i2⟩ := ih u d0 d1 (.im (.int k)) h.tail
        refine ⟨fun v hv => ?_, fun hv => ?_⟩
        · obtain ⟨j', e⟩ := i1 v hv
          exact ⟨j', by simp [forGo, hd, show ¬ ((t.kids.length : Int) + 1 < k + 2) by omega, e1, e]⟩
        · have e := i2 hv
          simp [forGo, hd, show ¬ ((t.kids.length : Int) + 1 < k + 2) by omega, e1, e]
  obtain ⟨k1, k2⟩ := key p t t.d (pd p) .un hp
  cases h : t.sub p with
  | none =>
    have e := k2 h
    simp [m_part_at, runP, F_part_at, pd, td] at e ⊢
    simp [e]
  | some u =>
    obtain ⟨j', e⟩ := k1 u h
    simp [m_part_at, runP, F_part_at, pd, td] at e ⊢
    simp [e]
/-! ### _law_part: None goes on as None -/
theorem L_part_m {t : T} {p : List Int} (hp : Pl p) : m_L_part [t.d, pd p] = some (td (t.sub p)) := by
  have no : ∀ (p : List Int) (d1 : D) (j : SV), ∃ j', forGo (gN 2) (fIf (fT (fBin dIsNot (fNw 0) (fC .non))) (fIf (fT (fBin dLt (fBin dAdd (fNw 2) (fC (.int 1))) (fUn dLen (fNw 0)))) (fAsg (fBin dItem (fNw 0) (fBin dAdd (fNw 2) (fC (.int 1)))) (gN 0)) (fAsg (fC .non) (gN 0))) fNext) (p.map D.int) [.im .non, .im d1, j] () = .nx [.im .non, .im d1, j'] () := by
    intro p
    induction p with
    | nil => exact fun d1 j => ⟨j, rfl⟩
    | cons k p ih =>
      intro d1 j
      obtain ⟨j', e⟩ := ih d1 (.im (.int k))
      exact ⟨j', by simp [forGo, e]⟩
  have key : ∀ (p : List Int) (t : T) (d1 : D) (j : SV), Pl p → ∃ j', forGo (gN 2) (fIf (fT (fBin dIsNot (fNw 0) (fC .non))) (fIf (fT (fBin dLt (fBin dAdd (fNw 2) (fC (.int 1))) (fUn dLen (fNw 0)))) (fAsg (fBin dItem (fNw 0) (fBin dAdd (fNw 2) (fC (.int 1)))) (gN 0)) (fAsg (fC .non) (gN 0))) fNext) (p.map D.int) [.im t.d, .im d1, j] () = .nx [.im (td (t.sub p)), .im d1, j'] () := by
    intro p
    induction p with
    | nil => exact fun t d1 j _ => ⟨j, by rw [T.sub_nil]; rfl⟩
    | cons k p ih =>
      intro t d1 j h
      have hk := h.head
      have e1 := kid_d t hk
      have e2 := kid_some t hk
      rw [t.sub_cons hk]
      have hd := t.d_eq
      cases hq : t.kid k with
      | none =>
        rw [hq] at e2
        have e3 : ¬ (k + 1 < 1 + (t.kids.length : Int)) := by simpa using e2.symm
        obtain ⟨j', e⟩ := no p d1 (.im (.int k))
        exact ⟨j', by simp [forGo, hd, show ¬ (k < (t.kids.length : Int)) by omega, e, td]⟩
      | some u =>
        rw [hq] at e1 e2
        have e3 : k + 1 < 1 + (t.kids.length : Int) := by simpa using e2.symm
        obtain ⟨j', e⟩ := ih u d1 (.im (.int k)) h.tail
        exact ⟨j', by simp [forGo, hd, show k < (t.kids.length : Int) by omega, e1, e]⟩
  obtain ⟨j', e⟩ := key p t (pd p) .un hp
  simp [m_L_part, runP, F_L_part, pd] at e ⊢
  simp [e]

/-! ### put_at -/
theorem put_at_m : ∀ (j : Nat) (p : List Int) (t u : T), p.length < j → Pl p → (t.sub p).isSome = true → m_put_at j [t.d, pd p, u.d] = some (t.put p u).d
  | 0, p, t, u, h, _, _ => absurd h (Nat.not_lt_zero _)
  | j + 1, [], t, u, _, _, _ => by simp [m_put_at, runP, F_put_at, pd]
  | j + 1, k :: p, t, u, h, hp, hs => by
    have ih := fun t => put_at_m j p t u (Nat.lt_of_succ_lt_succ h) hp.tail
    rw [t.sub_cons hp.head] at hs
    have hk := hp.head
    simp only [pd] at ih ⊢
    rcases hk with rfl | rfl
    · cases t with
      | a s => simp [T.kid, T.kids] at hs
      | b s x =>
        have e := ih x (by simpa [T.kid, T.kids] using hs)
        simp [m_put_at, runP, F_put_at, T.d, T.put, e]
      | c s x y =>
        have e := ih x (by simpa [T.kid, T.kids] using hs)
        simp [m_put_at, runP, F_put_at, T.d, T.put, e]
    · cases t with
      | a s => simp [T.kid, T.kids] at hs
      | b s x => simp [T.kid, T.kids] at hs
      | c s x y =>
        have e := ih y (by simpa [T.kid, T.kids] using hs)
        simp [m_put_at, runP, F_put_at, T.d, T.put, e]
theorem L_put_m : ∀ (j : Nat) (p : List Int) (t u : T), p.length < j → Pl p → (t.sub p).isSome = true → m_L_put j [t.d, pd p, u.d] = some (t.put p u).d
  | 0, p, t, u, h, _, _ => absurd h (Nat.not_lt_zero _)
  | j + 1, [], t, u, _, _, _ => by
    have e := eq_t0 (ns := [])
    simp at e
    simp [m_L_put, runP, F_L_put, pd, e]
  | j + 1, k :: p, t, u, h, hp, hs => by
    have ih := fun t => L_put_m j p t u (Nat.lt_of_succ_lt_succ h) hp.tail
    rw [t.sub_cons hp.head] at hs
    have hk := hp.head
    simp only [pd] at ih ⊢
    have ee := fun k => eq_t0 (ns := k :: p)
    simp at ee
    rcases hk with rfl | rfl
    · cases t with
      | a s => simp [T.kid, T.kids] at hs
      | b s x =>
        have e := ih x (by simpa [T.kid, T.kids] using hs)
        simp [m_L_put, runP, F_L_put, T.d, T.put, e, ee]
      | c s x y =>
        have e := ih x (by simpa [T.kid, T.kids] using hs)
        simp [m_L_put, runP, F_L_put, T.d, T.put, e, ee]
    · cases t with
      | a s => simp [T.kid, T.kids] at hs
      | b s x => simp [T.kid, T.kids] at hs
      | c s x y =>
        have e := ih y (by simpa [T.kid, T.kids] using hs)
        simp [m_L_put, runP, F_L_put, T.d, T.put, e, ee]
/-! ### sizes -/
theorem size_of_m : ∀ (j : Nat) (t : T), t.size ≤ j → m_size_of j [t.d] = some (.int t.size)
  | 0, t, h => absurd h (by have := t.size_pos; omega)
  | j + 1, t, h => by
    have ih := fun u => size_of_m j u
    cases t with
    | a s =>
      have e := sum_l (ns := [])
      simp at e
      simp [m_size_of, runP, F_size_of, T.d, lcGo, T.size, e]
    | b s x =>
      have e1 := ih x (by simp [T.size] at h; omega)
      have e := sum_l (ns := [(x.size : Int)])
      simp at e
      simp [m_size_of, runP, F_size_of, T.d, lcGo, T.size, e1, e]
    | c s x y =>
      have e1 := ih x (by simp [T.size] at h; omega)
      have e2 := ih y (by simp [T.size] at h; omega)
      have e := sum_l (ns := [(x.size : Int), (y.size : Int)])
      simp at e
      simp [m_size_of, runP, F_size_of, T.d, lcGo, T.size, e1, e2, e]
      omega
theorem symbols_m : ∀ (j : Nat) (t : T), t.size ≤ j → t.size ≤ 100 → ∃ ds : List D, m_L_symbols j [t.d] = some (.tup ds) ∧ ds.length = t.size
  | 0, t, h, _ => absurd h (by have := t.size_pos; omega)
  | j + 1, t, h, h1 => by
    have ih := fun u => symbols_m j u
    cases t with
    | a s => exact ⟨[.int s], by simp [m_L_symbols, runP, F_L_symbols, T.d, forGo], rfl⟩
    | b s x =>
      obtain ⟨ds, e1, e2⟩ := ih x (by simp [T.size] at h; omega) (by simp [T.size] at h1; omega)
      simp [T.size] at h1
      refine ⟨.int s :: ds, ?_, by simp [T.size, e2]; omega⟩
      simp [m_L_symbols, runP, F_L_symbols, T.d, forGo, e1, show 1 + ds.length ≤ 100000 by omega]
    | c s x y =>
      obtain ⟨ds, e1, e2⟩ := ih x (by simp [T.size] at h; omega) (by simp [T.size] at h1; omega)
      obtain ⟨es, e3, e4⟩ := ih y (by simp [T.size] at h; omega) (by simp [T.size] at h1; omega)
      simp [T.size] at h1
      refine ⟨.int s :: (ds ++ es), ?_, by simp [T.size, e2, e4]; omega⟩
      simp [m_L_symbols, runP, F_L_symbols, T.d, forGo, e1, e3, show 1 + ds.length ≤ 100000 by omega, show ds.length + 1 + es.length ≤ 100000 by omega]
theorem L_size_m {t : T} (h : t.size ≤ 40) : m_L_size [t.d] = some (.int t.size) := by
  obtain ⟨ds, e1, e2⟩ := symbols_m 40 t h (by omega)
  simp [m_L_size, runP, F_L_size, e1, e2]
/-! ### places -/
def T.pls : T → List (List Int)
  | .a _ => [[]]
  | .b _ x => [] :: x.pls.map (0 :: ·)
  | .c _ x y => [] :: (x.pls.map (0 :: ·) ++ y.pls.map (1 :: ·))
theorem T.pls_len (t : T) : t.pls.length = t.size := by
  induction t with
  | a s => rfl
  | b s x ih => simp [pls, size, ih]; omega
  | c s x y ih1 ih2 => simp [pls, size, ih1, ih2]; omega
theorem T.pls_ok (t : T) : ∀ p ∈ t.pls, Pl p ∧ p.length < t.size ∧ (t.sub p).isSome = true := by
  induction t with
  | a s =>
    intro p h
    simp [pls] at h
    subst h
    exact ⟨fun _ h => (nomatch h), by simp [size], by simp⟩
  | b s x ih =>
    intro p h
    simp [pls] at h
    rcases h with rfl | ⟨q, hq, rfl⟩
    · exact ⟨fun _ h => (nomatch h), T.size_pos _, by simp⟩
    · obtain ⟨h1, h2, h3⟩ := ih q hq
      refine ⟨fun k hk => ?_, by simp [size]; omega, by rw [sub_cons _ (.inl rfl)]; simpa [kid, kids] using h3⟩
      rcases List.mem_cons.mp hk with rfl | hk
      · exact .inl rfl
      · exact h1 k hk
  | c s x y ih1 ih2 =>
    intro p h
    simp [pls] at h
    rcases h with rfl | ⟨q, hq, rfl⟩ | ⟨q, hq, rfl⟩
    · exact ⟨fun _ h => (nomatch h), by simp [size]; omega, by simp⟩
    · obtain ⟨h1, h2, h3⟩ := ih1 q hq
      refine ⟨fun k hk => ?_, by simp [size]; omega, by rw [sub_cons _ (.inl rfl)]; simpa [kid, kids] using h3⟩
      rcases List.mem_cons.mp hk with rfl | hk
      · exact .inl rfl
      · exact h1 k hk
    · obtain ⟨h1, h2, h3⟩ := ih2 q hq
      refine ⟨fun k hk => ?_, by simp [size]; omega, by rw [sub_cons _ (.inr rfl)]; simpa [kid, kids] using h3⟩
      rcases List.mem_cons.mp hk with rfl | hk
      · exact .inr rfl
      · exact h1 k hk
theorem rg11 : rgD 1 1 = [.int 1] := by simp [rgD]
theorem rg12 : rgD 1 2 = [.int 1, .int 2] := by simp [rgD, List.range_succ]
theorem rg10 : rgD 1 0 = [] := by simp [rgD]
theorem lc_pls {ρ : List SV} {k : Int} {x : SV} {d0 d1 : D} (hx : ρ = [.im d0, .im d1, .im (.int (k + 1)), .un]) {ps : List (List Int)} (hp : ∀ p ∈ ps, p.length < 100) :
    lcGo (gN 3) fYes (fBin dAdd (fTup (aCons (fBin dSub (fNw 2) (fC (.int 1))) aNil)) (fNw 3)) ρ (ps.map pd) () = some ((ps.map (k :: ·)).map pd, ()) := by
  subst hx
  rw [List.map_map]
  refine lc_map (g := pd ∘ (k :: ·)) fun p h => ⟨_, rfl, ?_⟩
  have := hp p h
  simp [pd, show 1 + p.length ≤ 100000 by omega]
theorem places_m : ∀ (j : Nat) (t : T), t.size ≤ j → t.size ≤ 100 → m_L_places j [t.d] = some (.lst (t.pls.map pd))
  | 0, t, h, _ => absurd h (by have := t.size_pos; omega)
  | j + 1, t, h, h1 => by
    have ih := fun u => places_m j u
    cases t with
    | a s => simp [m_L_places, runP, F_L_places, T.d, forGo, T.pls, pd, rg10]
    | b s x =>
      have e1 := ih x (by simp [T.size] at h; omega) (by simp [T.size] at h1; omega)
      simp [T.size] at h1
      have e2 := fun d0 d1 => lc_pls (k := 0) (x := .un) (d0 := d0) (d1 := d1) rfl (ps := x.pls) fun p hp => by have := (x.pls_ok p hp).2.1; omega
      have hl := x.pls_len
      simp at e2
      simp [m_L_places, runP, F_L_places, T.d, forGo, T.pls, pd, rg11, e1, e2, hl, show x.size ≤ 100000 by omega, show 1 + x.size ≤ 100000 by omega]
    | c s x y =>
      have e1 := ih x (by simp [T.size] at h; omega) (by simp [T.size] at h1; omega)
      have e3 := ih y (by simp [T.size] at h; omega) (by simp [T.size] at h1; omega)
      simp [T.size] at h1
      have e2 := fun d0 d1 => lc_pls (k := 0) (x := .un) (d0 := d0) (d1 := d1) rfl (ps := x.pls) fun p hp => by have := (x.pls_ok p hp).2.1; omega
      have e4 := fun d0 d1 => lc_pls (k := 1) (x := .un) (d0 := d0) (d1 := d1) rfl (ps := y.pls) fun p hp => by have := (y.pls_ok p hp).2.1; omega
      have hl := x.pls_len
      have hm := y.pls_len
      simp at e2 e4
      simp [m_L_places, runP, F_L_places, T.d, forGo, T.pls, pd, rg12, e1, e2, e3, e4, hl, hm, show x.size ≤ 100000 by omega, show y.size ≤ 100000 by omega, show 1 + x.size ≤ 100000 by omega, show x.size + 1 + y.size ≤ 100000 by omega]

/-! ### is_tree -/
@[simp] theorem is_num_m (v lo hi : Int) : m_is_number_trees [.int v, .int lo, .int hi] = some (.bl (decide (lo ≤ v) && decide (v ≤ hi))) := by
  by_cases h : lo ≤ v <;> simp [m_is_number_trees, runP, F_is_number_trees, h]
def T.ok (ar : List Int) : T → Prop
  | .a s => 0 ≤ s ∧ ar[s.toNat]? = some 0
  | .b s x => 0 ≤ s ∧ ar[s.toNat]? = some 1 ∧ x.ok ar
  | .c s x y => 0 ≤ s ∧ ar[s.toNat]? = some 2 ∧ x.ok ar ∧ y.ok ar
theorem at_ints {ns : List Int} {s k : Int} (h : 0 ≤ s) (e : ns[s.toNat]? = some k) : atI (ns.map D.int) s = some (.int k) := by
  rw [atI_nn h, List.getElem?_map, e]
  rfl
theorem lt_of_get {α : Type} {ns : List α} {s : Int} {k : α} (h : 0 ≤ s) (e : ns[s.toNat]? = some k) : s < ns.length := by
  have := (List.getElem?_eq_some_iff.mp e).1
  omega
theorem T.ok_head {ar : List Int} {t : T} (h : t.ok ar) : 0 ≤ t.sym ∧ ar[t.sym.toNat]? = some (t.kids.length : Int) ∧ ∀ u ∈ t.kids, u.ok ar := by
  cases t with
  | a s => exact ⟨h.1, h.2, fun _ z => (nomatch z)⟩
  | b s x =>
    refine ⟨h.1, h.2.1, fun u z => ?_⟩
    simp [kids] at z
    subst z
    exact h.2.2
  | c s x y =>
    refine ⟨h.1, h.2.1, fun u z => ?_⟩
    simp [kids] at z
    rcases z with rfl | rfl
    · exact h.2.2.1
    · exact h.2.2.2
def szs (ts : List T) : Nat := (ts.map T.size).sum
theorem is_tree_m {ar : List Int} {t : T} (ho : t.ok ar) (hz : t.size ≤ 15) : m_is_tree [.tup (ar.map D.int), t.d] = some (.bl true) := by
  have key : ∀ (n : Nat) (ts : List T) (many : Nat) (v j : SV), (∀ t ∈ ts, t.ok ar) → szs ts < n → many + szs ts ≤ 15 →
      ∃ m' j', fWhile (fT (fBin dGt (fUn dLen (fNw 2)) (fC (.int 0)))) (fSeq (fPop 2 (gN 4))
  (fSeq (fAsg (fBin dAdd (fNw 3) (fC (.int 1))) (gN 3))
  (fSeq (fIf (fOrT (fT (fBin dGt (fNw 3) (fC (.int 15)))) (fOrT (fNotT (fTru (fUn (dIsi "tuple") (fNw 4)))) (fT (fBin dEq (fUn dLen (fNw 4)) (fC (.int 0)))))) (fRet (fC (.bl false))) fNext)
  (fSeq (fIf (fOrT (fNotT (fTru (fCall 3 m_is_number_trees (aCons (fBin dItem (fNw 4) (fC (.int 0))) (aCons (fC (.int 0)) (aCons (fBin dSub (fUn dLen (fNw 0)) (fC (.int 1))) aNil)))))) (fT (fBin dNe (fUn dLen (fNw 4)) (fBin dAdd (fC (.int 1)) (fBin dItem (fNw 0) (fBin dItem (fNw 4) (fC (.int 0)))))))) (fRet (fC (.bl false))) fNext)
  (fExt 2 (fSl (fNw 4) (oSome (fC (.int 1))) oNo)))))) n [.im (.tup (ar.map D.int)), v, .ow (ts.map T.d), .im (.int many), j] () = .nx [.im (.tup (ar.map D.int)), v, .ow [], .im (.int m'), j'] () := by
    intro n
    induction n with
    | zero => exact fun ts many v j _ h _ => absurd h (Nat.not_lt_zero _)
    | succ n ih =>
      intro ts many v j hok hn hm
      rcases List.eq_nil_or_concat ts with rfl | ⟨init, t, rfl⟩
      · exact ⟨many, j, by simp [fWhile]⟩
      · simp only [List.concat_eq_append] at hok hn hm ⊢
        have hs : szs (init ++ [t]) = szs init + t.size := by simp [szs]
        have hk : t.size = 1 + szs t.kids := t.size_kids
        rw [hs] at hn hm
        obtain ⟨h1, h2, h3⟩ := T.ok_head (hok t (by simp))
        have hlt := lt_of_get h1 h2
        have e1 := at_ints h1 h2
        have hs' : szs (init ++ t.kids) = szs init + szs t.kids := by simp [szs]
        obtain ⟨m', j', e⟩ := ih (init ++ t.kids) (many + 1) v (.im t.d) (fun u hu => by
          rcases List.mem_append.mp hu with hu | hu
          · exact hok u (List.mem_append_left _ hu)
          · exact h3 u hu) (by omega) (by omega)
        refine ⟨m', j', ?_⟩
        have hil : init.length ≤ 15 := by
          have : init.length ≤ szs init := by
            clear hs hs' e hok hn hm ih
            induction init with
            | nil => simp
            | cons x r ihr => have := x.size_pos; simp [szs] at ihr ⊢; omega
          omega
        have hkl := t.kids_len
        have hd := t.d_eq
        rw [hd] at e
        simp at e
        simp [fWhile, hd, e1, show ¬ ((15 : Int) < many + 1) by omega, h1, show t.sym ≤ (ar.length : Int) - 1 by omega, show init.length + t.kids.length ≤ 100000 by omega, show (0 : Int) < (init.length : Int) + 1 by omega, show ((1 : Int) + (t.kids.length : Int) = (t.kids.length : Int) + 1) by omega]
        simpa using e
  obtain ⟨m', j', e⟩ := key 20 [t] 0 (.im t.d) .un (by simpa using ho) (by simp [szs]; omega) (by simp [szs]; omega)
  simp at e
  simp [m_is_tree, runP, F_is_tree, e]
/-! ### what put leaves -/
theorem T.sub_ok {ar : List Int} : ∀ {p : List Int} {t u : T}, t.ok ar → t.sub p = some u → u.ok ar
  | [], t, u, h, e => by
    rw [sub_nil] at e
    cases e
    exact h
  | k :: p, t, u, h, e => by
    unfold sub at e
    split at e
    · exact sub_ok h.2.2 e
    · exact sub_ok h.2.2.1 e
    · exact sub_ok h.2.2.2 e
    · cases e
theorem T.put_ok {ar : List Int} : ∀ {p : List Int} {t u : T}, t.ok ar → u.ok ar → (t.put p u).ok ar
  | [], t, u, h, hu => by
    rw [put_nil]
    exact hu
  | k :: p, t, u, h, hu => by
    unfold put
    split
    · exact ⟨h.1, h.2.1, put_ok h.2.2 hu⟩
    · exact ⟨h.1, h.2.1, put_ok h.2.2.1 hu, h.2.2.2⟩
    · exact ⟨h.1, h.2.1, h.2.2.1, put_ok h.2.2.2 hu⟩
    · exact h
theorem T.put_size : ∀ (p : List Int) (t u : T), (t.put p u).size ≤ t.size + u.size
  | [], t, u => by
    rw [put_nil]
    omega
  | k :: p, t, u => by
    unfold put
    split
    · rename_i s x; have := put_size p x u; simp [size]; omega
    · rename_i s x y; have := put_size p x u; simp [size]; omega
    · rename_i s x y; have := put_size p y u; simp [size]; omega
    · omega
theorem T.sub_size : ∀ {p : List Int} {t u : T}, t.sub p = some u → p.length + u.size ≤ t.size
  | [], t, u, e => by
    rw [sub_nil] at e
    cases e
    simp
  | k :: p, t, u, e => by
    unfold sub at e
    split at e
    · have := sub_size e; simp [size]; omega
    · have := sub_size e; simp [size]; omega
    · have := sub_size e; simp [size]; omega
    · cases e
/-- a place that is not above or below p stays -/
theorem T.put_sub : ∀ (p q : List Int) (t u : T), ¬ p <+: q → ¬ q <+: p → (t.sub q).isSome = true → ((t.put p u).sub q).isSome = true
  | [], q, t, u, h, _, _ => absurd List.nil_prefix h
  | k :: p, [], t, u, _, h, _ => absurd List.nil_prefix h
  | k :: p, l :: q, t, u, h1, h2, h => by
    cases t with
    | a s => simp [sub] at h
    | b s x =>
      by_cases hk : k = 0
      · subst hk
        by_cases hl : l = 0
        · subst hl
          have g1 : ¬ p <+: q := fun z => h1 (List.cons_prefix_cons.mpr ⟨rfl, z⟩)
          have g2 : ¬ q <+: p := fun z => h2 (List.cons_prefix_cons.mpr ⟨rfl, z⟩)
          simpa [put, sub] using put_sub p q x u g1 g2 (by simpa [sub] using h)
        · simp [sub, hl] at h
      · simpa [put, hk] using h
    | c s x y =>
      by_cases hk : k = 0
      · subst hk
        by_cases hl : l = 0
        · subst hl
          have g1 : ¬ p <+: q := fun z => h1 (List.cons_prefix_cons.mpr ⟨rfl, z⟩)
          have g2 : ¬ q <+: p := fun z => h2 (List.cons_prefix_cons.mpr ⟨rfl, z⟩)
          simpa [put, sub] using put_sub p q x u g1 g2 (by simpa [sub] using h)
        · by_cases hl1 : l = 1
          · subst hl1
            simpa [put, sub] using h
          · simp [sub, hl, hl1] at h
      · by_cases hk1 : k = 1
        · subst hk1
          by_cases hl : l = 1
          · subst hl
            have g1 : ¬ p <+: q := fun z => h1 (List.cons_prefix_cons.mpr ⟨rfl, z⟩)
            have g2 : ¬ q <+: p := fun z => h2 (List.cons_prefix_cons.mpr ⟨rfl, z⟩)
            simpa [put, sub] using put_sub p q y u g1 g2 (by simpa [sub] using h)
          · by_cases hl1 : l = 0
            · subst hl1
              simpa [put, sub] using h
            · simp [sub, hl, hl1] at h
        · simpa [put, hk, hk1] using h
end K7
end
section
set_option maxRecDepth 100000
/-! K76, plain law, part c: automata; states. -/
namespace K7
open PySem L2
inductive En where
  | e0 (q : Int) | e1 (r : List Int) | e2 (rs : List (List Int))
def En.d : En → D
  | .e0 q => .int q
  | .e1 r => pd r
  | .e2 rs => .tup (rs.map pd)
def InR (n : Nat) (q : Int) : Prop := 0 ≤ q ∧ q < n
def En.ok (n : Nat) (a : Int) : En → Prop
  | .e0 q => a = 0 ∧ InR n q
  | .e1 r => a = 1 ∧ r.length = n ∧ ∀ q ∈ r, InR n q
  | .e2 rs => a = 2 ∧ rs.length = n ∧ ∀ r ∈ rs, r.length = n ∧ ∀ q ∈ r, InR n q
structure Au where
  ar : List Int
  good : List Bool
  st : List En
def Au.d (A : Au) : D := .tup [pd A.ar, .tup (A.good.map D.bl), .tup (A.st.map En.d)]
def Au.n (A : Au) : Nat := A.good.length
structure Au.ok (A : Au) : Prop where
  al : 1 ≤ A.ar.length ∧ A.ar.length ≤ 4
  gl : 1 ≤ A.n ∧ A.n ≤ 4
  sl : A.st.length = A.ar.length
  en : ∀ (i : Nat) a e, A.ar[i]? = some a → A.st[i]? = some e → e.ok A.n a
def nx (A : Au) (s : Int) (row : List Int) : Int := match A.st[s.toNat]?, row with
  | some (.e0 q), [] => q
  | some (.e1 r), [i] => r.getD i.toNat 0
  | some (.e2 rs), [i, j] => (rs.getD i.toNat []).getD j.toNat 0
  | _, _ => 0
theorem getD_some {α : Type} {xs : List α} {i : Nat} {d : α} (h : i < xs.length) : xs[i]? = some (xs.getD i d) ∧ xs.getD i d ∈ xs := by
  have e := List.getElem?_eq_getElem h
  rw [List.getD_eq_getElem?_getD, e]
  exact ⟨rfl, List.getElem_mem h⟩
theorem InR.lt {n : Nat} {q : Int} (h : InR n q) : q.toNat < n := by
  have := h.1
  have := h.2
  omega
theorem at_pd {rs : List (List Int)} {i : Int} {r : List Int} (h : 0 ≤ i) (e : rs[i.toNat]? = some r) : atI (rs.map pd) i = some (pd r) := by
  rw [atI_nn h, List.getElem?_map, e]
  rfl
theorem nx_ok {A : Au} (hA : A.ok) {s : Int} {row : List Int} (hs : 0 ≤ s) (ha : A.ar[s.toNat]? = some (row.length : Int)) (hr : ∀ q ∈ row, InR A.n q) :
    InR A.n (nx A s row) ∧ ∀ x, seq? x = some (row.map D.int) → m_next_state [A.d, .int s, x] = some (.int (nx A s row)) := by
  have hl : s.toNat < A.st.length := by
    rw [hA.sl]
    exact (List.getElem?_eq_some_iff.mp ha).1
  have he := List.getElem?_eq_getElem hl
  have ok := hA.en _ _ _ ha he
  have e1 : atI (A.st.map En.d) s = some (A.st[s.toNat].d) := by
    rw [atI_nn hs, List.getElem?_map, he]
    rfl
  generalize A.st[s.toNat] = e at he ok e1
  cases e with
  | e0 q =>
    obtain ⟨h1, h2⟩ := ok
    match row, h1 with
    | [], _ =>
      have en : nx A s [] = q := by simp [nx, he]
      rw [en]
      exact ⟨h2, fun x hx => by simp [m_next_state, runP, F_next_state, Au.d, e1, En.d, hx, forGo]⟩
    | _ :: _, h => simp at h
  | e1 r =>
    obtain ⟨h1, h2, h3⟩ := ok
    match row, h1 with
    | [i], _ =>
      have hi := hr i (by simp)
      obtain ⟨g1, g2⟩ := getD_some (xs := r) (i := i.toNat) (d := 0) (by rw [h2]; exact hi.lt)
      have en : nx A s [i] = r.getD i.toNat 0 := by simp [nx, he]
      rw [en]
      have e2 := at_ints hi.1 g1
      refine ⟨h3 _ g2, fun x hx => ?_⟩
      simp [m_next_state, runP, F_next_state, Au.d, e1, En.d, hx, forGo, pd, e2]
    | [], h => simp at h
    | _ :: _ :: _, h => simp at h; omega
  | e2 rs =>
    obtain ⟨h1, h2, h3⟩ := ok
    match row, h1 with
    | [i, j], _ =>
      have hi := hr i (by simp)
      have hj := hr j (by simp)
      obtain ⟨g1, g2⟩ := getD_some (xs := rs) (i := i.toNat) (d := []) (by rw [h2]; exact hi.lt)
      obtain ⟨h4, h5⟩ := h3 _ g2
      obtain ⟨g3, g4⟩ := getD_some (xs := rs.getD i.toNat []) (i := j.toNat) (d := 0) (by rw [h4]; exact hj.lt)
      have en : nx A s [i, j] = (rs.getD i.toNat []).getD j.toNat 0 := by simp [nx, he]
      rw [en]
      have e2 := at_pd hi.1 g1
      have e3 := at_ints hj.1 g3
      refine ⟨h5 _ g4, fun x hx => ?_⟩
      generalize (rs.getD i.toNat []).getD j.toNat 0 = q' at e3 ⊢
      generalize rs.getD i.toNat [] = r' at e2 e3
      have e2' : atI (List.map pd rs) i = some (.tup (r'.map D.int)) := e2
      simp [m_next_state, runP, F_next_state, Au.d, e1, En.d, hx, forGo, e2', e3]
    | [], h => simp at h
    | [_], h => simp at h
    | _ :: _ :: _ :: _, h => simp at h; omega
theorem L_next_state_eq : m_L_next_state = m_next_state := rfl
/-! ### state_of -/
def evl (A : Au) : T → Int
  | .a s => nx A s []
  | .b s x => nx A s [evl A x]
  | .c s x y => nx A s [evl A x, evl A y]
theorem state_of_m {A : Au} (hA : A.ok) : ∀ (j : Nat) (t : T), t.size ≤ j → t.ok A.ar → InR A.n (evl A t) ∧ m_state_of j [A.d, t.d] = some (.int (evl A t))
  | 0, t, h, _ => absurd h (by have := t.size_pos; omega)
  | j + 1, t, h, ho => by
    have ih := fun u => state_of_m hA j u
    cases t with
    | a s =>
      obtain ⟨h1, h2⟩ := ho
      obtain ⟨g1, g2⟩ := nx_ok hA h1 (row := []) h2 (by simp)
      have e := g2 (.lst []) rfl
      exact ⟨g1, by simp [m_state_of, runP, F_state_of, T.d, lcGo, e, evl]⟩
    | b s x =>
      obtain ⟨h1, h2, h3⟩ := ho
      obtain ⟨i1, e1⟩ := ih x (by simp [T.size] at h; omega) h3
      obtain ⟨g1, g2⟩ := nx_ok hA h1 (row := [evl A x]) h2 (by simpa using i1)
      have e := g2 (.lst [.int (evl A x)]) rfl
      exact ⟨g1, by simp [m_state_of, runP, F_state_of, T.d, lcGo, e, e1, evl]⟩
    | c s x y =>
      obtain ⟨h1, h2, h3, h4⟩ := ho
      obtain ⟨i1, e1⟩ := ih x (by simp [T.size] at h; omega) h3
      obtain ⟨i2, e2⟩ := ih y (by simp [T.size] at h; omega) h4
      obtain ⟨g1, g2⟩ := nx_ok hA h1 (row := [evl A x, evl A y]) h2 (by simpa using ⟨i1, i2⟩)
      have e := g2 (.lst [.int (evl A x), .int (evl A y)]) rfl
      exact ⟨g1, by simp [m_state_of, runP, F_state_of, T.d, lcGo, e, e1, e2, evl]⟩
theorem L_state_eq : ∀ j, m_L_state j = m_state_of j
  | 0 => rfl
  | j + 1 => by
    show runP 3 (F_L_state (m_L_state j)) = runP 3 (F_state_of (m_state_of j))
    rw [L_state_eq j]
    rfl
/-! ### rows -/
def rowsOf (ks : List Int) : Nat → List (List Int)
  | 0 => [[]]
  | k + 1 => (rowsOf ks k).flatMap fun r => ks.map fun q => r ++ [q]
theorem mem_rowsOf {ks : List Int} : ∀ {k : Nat} {row : List Int}, row ∈ rowsOf ks k ↔ row.length = k ∧ ∀ q ∈ row, q ∈ ks
  | 0, row => by
    simp only [rowsOf, List.mem_singleton]
    constructor
    · rintro rfl
      exact ⟨rfl, fun _ h => (nomatch h)⟩
    · exact fun h => List.eq_nil_of_length_eq_zero h.1
  | k + 1, row => by
    simp only [rowsOf, List.mem_flatMap, List.mem_map]
    constructor
    · rintro ⟨r, hr, q, hq, rfl⟩
      obtain ⟨h1, h2⟩ := mem_rowsOf.mp hr
      refine ⟨by simp [h1], fun x hx => ?_⟩
      rcases List.mem_append.mp hx with hx | hx
      · exact h2 x hx
      · simp at hx
        subst hx
        exact hq
    · rintro ⟨h1, h2⟩
      rcases row.eq_nil_or_concat with rfl | ⟨r, q, rfl⟩
      · simp at h1
      · simp only [List.concat_eq_append] at h1 h2 ⊢
        exact ⟨r, mem_rowsOf.mpr ⟨by simpa using h1, fun x hx => h2 x (List.mem_append_left _ hx)⟩, q, h2 q (by simp), rfl⟩
section
variable {α β : Type} {S : Type} {ρ : List SV} {s : S}
theorem lc2_map {gf : GF} {fi1 : AF S} {gf1 : GF} {fe : EF S} {vs1 : List Nat} {enc : α → D} {enc1 : β → D} {Y : α → List β} {g : α → β → D} : ∀ {xs : List α}, (∀ x ∈ xs, ∃ ρ1, gf (enc x) ρ = some ρ1 ∧ vs1.all (notOwn ρ1) = true ∧ fi1 ρ1 s = some ((Y x).map enc1, s) ∧
    ∀ y ∈ Y x, ∃ ρ2, gf1 (enc1 y) (wipeS ρ1 vs1) = some ρ2 ∧ fe ρ2 s = some (g x y, s)) → lc2Go gf fYes fi1 gf1 fYes fe vs1 ρ (xs.map enc) s = some (xs.flatMap fun x => (Y x).map (g x), s)
  | [], _ => rfl
  | x :: xs, h => by
    obtain ⟨ρ1, h1, h2, h3, h4⟩ := h x List.mem_cons_self
    have ih := lc2_map (xs := xs) fun y hy => h y (List.mem_cons_of_mem _ hy)
    have e := lc_map (enc := enc1) (g := g x) h4
    simp only [List.map_cons, lc2Go, h1, Option.bind_some, fYes_, if_true, h2, h3, e, ih, Option.map_some, List.flatMap_cons]
@[simp] theorem fLc2_ {fi : AF S} {gf : GF} {ft : TF S} {fi1 : AF S} {gf1 : GF} {ft1 : TF S} {fe : EF S} {vs vs1 : List Nat} : fLc2 fi gf ft fi1 gf1 ft1 fe vs vs1 ρ s = (if vs.all (notOwn ρ) = true then (fi ρ s).bind fun p => (lc2Go gf ft fi1 gf1 ft1 fe vs1 (wipeS ρ vs) p.1 p.2).bind fun q => if q.1.length ≤ 100000 then some (.lst q.1, q.2) else none else none) := rfl
end
theorem rowsOf_len {ks : List Int} : ∀ {k : Nat}, (rowsOf ks k).length = ks.length ^ k
  | 0 => rfl
  | k + 1 => by
    simp only [rowsOf, List.length_flatMap, List.length_map]
    rw [List.map_const', List.sum_replicate_nat, rowsOf_len, Nat.pow_succ]
theorem rg0 : rgD 0 0 = [] := rfl
theorem rg1 : rgD 0 1 = [.int 0] := by simp [rgD]
theorem rg2 : rgD 0 2 = [.int 0, .int 1] := by simp [rgD, List.range_succ]
theorem pow4 {n k : Nat} (h : n ≤ 4) (hk : k ≤ 2) : n ^ k ≤ 16 := by
  have h1 : n ^ k ≤ 4 ^ k := Nat.pow_le_pow_left h k
  have h2 : 4 ^ k ≤ 4 ^ 2 := Nat.pow_le_pow_right (by decide) hk
  omega
theorem rows_step {ks : List Int} {k : Nat} (hk : k + 1 ≤ 2) (hl : ks.length ≤ 4) (d1 d3 : D) (x4 x5 : SV) (h4 : x4.own = false) (h5 : x5.own = false) :
    fAsg (fLc2 (sSeq (fNw 2)) (gN 4) fYes (sSeq (fN 0)) (gN 5) fYes (fBin dAdd (fNw 4) (fTup (aCons (fN 5) aNil))) [4, 5] [5]) (gN 2) [.im (.lst (ks.map D.int)), .im d1, .im (.lst ((rowsOf ks k).map pd)), .im d3, x4, x5] () =
      .nx [.im (.lst (ks.map D.int)), .im d1, .im (.lst ((rowsOf ks (k + 1)).map pd)), .im d3, x4, x5] () := by
  have e := lc2_map (S := Unit) (s := ()) (ρ := [.im (.lst (ks.map D.int)), .im d1, .im (.lst ((rowsOf ks k).map pd)), .im d3, .un, .un]) (gf := gN 4) (fi1 := sSeq (fN 0)) (gf1 := gN 5) (fe := fBin dAdd (fNw 4) (fTup (aCons (fN 5) aNil))) (vs1 := [5]) (enc := pd) (enc1 := D.int) (Y := fun _ => ks) (g := fun r q => pd (r ++ [q])) (xs := rowsOf ks k) (fun r hr => ⟨_, rfl, by simp, by simp, fun q hq => ⟨_, rfl, by
    have := (mem_rowsOf.mp hr).1
    simp [pd, show r.length ≤ 99999 by omega]⟩⟩)
  have e2 : ((rowsOf ks k).flatMap fun r => ks.map fun q => pd (r ++ [q])) = (rowsOf ks (k + 1)).map pd := by
    simp [rowsOf, List.map_flatMap, Function.comp_def]
  rw [e2] at e
  have hz := pow4 hl hk
  rw [← rowsOf_len] at hz
  simp [e, h4, h5, show (rowsOf ks (k + 1)).length ≤ 100000 by omega]
theorem rows_of_m {ks : List Int} {k : Nat} (hk : k ≤ 2) (hl : ks.length ≤ 4) : m_rows_of [.lst (ks.map D.int), .int k] = some (.lst ((rowsOf ks k).map pd)) := by
  have s1 := fun d1 d3 x4 x5 h4 h5 => rows_step (k := 0) (by decide) hl d1 d3 x4 x5 h4 h5
  have s2 := fun d1 d3 x4 x5 h4 h5 => rows_step (k := 1) (by decide) hl d1 d3 x4 x5 h4 h5
  refine run_rt ?_
  refine (seq_nx (ρ' := [.im (.lst (ks.map D.int)), .im (.int k), .im (.lst ((rowsOf ks 0).map pd)), .un, .un, .un]) (s' := ()) (by simp [rowsOf, pd])).trans ?_
  match k, hk with
  | 0, _ =>
    refine (seq_nx (ρ' := [.im (.lst (ks.map D.int)), .im (.int 0), .im (.lst ((rowsOf ks 0).map pd)), .un, .un, .un]) (s' := ()) (by simp [rg0, forGo])).trans ?_
    simp
  | 1, _ =>
    refine (seq_nx (ρ' := [.im (.lst (ks.map D.int)), .im (.int 1), .im (.lst ((rowsOf ks 1).map pd)), .im (.int 0), .un, .un]) (s' := ()) ?_).trans ?_
    · refine (for_go (ds := [.int 0]) (s' := ()) (by simp [rg1])).trans ?_
      exact (go_nx rfl (s1 _ _ _ _ rfl rfl)).trans rfl
    · simp
  | 2, _ =>
    refine (seq_nx (ρ' := [.im (.lst (ks.map D.int)), .im (.int 2), .im (.lst ((rowsOf ks 2).map pd)), .im (.int 1), .un, .un]) (s' := ()) ?_).trans ?_
    · refine (for_go (ds := [.int 0, .int 1]) (s' := ()) (by simp [rg2])).trans ?_
      refine (go_nx rfl (s1 _ _ _ _ rfl rfl)).trans ?_
      exact (go_nx rfl (s2 _ _ _ _ rfl rfl)).trans rfl
    · simp
end K7
end
section
set_option maxRecDepth 100000
/-! K76, plain law, part d: the reachable states. -/
namespace K7
open PySem L2
inductive Reach (A : Au) : Int → Prop where
  | mk {s : Int} {row : List Int} (hs : 0 ≤ s) (ha : A.ar[s.toNat]? = some (row.length : Int)) (hr : ∀ q ∈ row, Reach A q) : Reach A (nx A s row)
theorem Reach.inr {A : Au} (hA : A.ok) {q : Int} (h : Reach A q) : InR A.n q := by
  induction h with
  | mk hs ha hr ih => exact (nx_ok hA hs ha ih).1
theorem nodup_len : ∀ (n : Nat) (l : List Int), l.Nodup → (∀ q ∈ l, InR n q) → l.length ≤ n
  | 0, l, _, h => by
    cases l with
    | nil => simp
    | cons q r =>
      have := h q List.mem_cons_self
      have h1 := this.1
      have h2 := this.2
      omega
  | n + 1, l, hd, h => by
    have ih := nodup_len n (l.erase (n : Int)) (hd.erase _) fun q hq => by
      have h1 := hd.mem_erase_iff.mp hq
      have h2 := h q h1.2
      have h3 := h2.1
      have h4 := h2.2
      have h5 := h1.1
      exact ⟨h3, by omega⟩
    have := List.length_erase (a := (n : Int)) (l := l)
    split at this <;> omega
structure Good (A : Au) (ks : List Int) : Prop where
  nd : ks.Nodup
  re : ∀ q ∈ ks, Reach A q
theorem Good.len {A : Au} (hA : A.ok) {ks : List Int} (g : Good A ks) : ks.length ≤ 4 := Nat.le_trans (nodup_len A.n ks g.nd fun q h => (g.re q h).inr hA) hA.gl.2
theorem kput_mem {ks : List Int} {q : Int} (h : q ∈ ks) : kput ks q = ks := if_pos h
theorem kput_new {ks : List Int} {q : Int} (h : q ∉ ks) : kput ks q = ks ++ [q] := if_neg h
theorem Good.put {A : Au} {ks : List Int} {q : Int} (g : Good A ks) (h : Reach A q) : Good A (kput ks q) := by
  by_cases hq : q ∈ ks
  · rw [kput_mem hq]
    exact g
  · rw [kput_new hq]
    refine ⟨List.nodup_append.mpr ⟨g.nd, by simp, fun x hx y hy => ?_⟩, fun x hx => ?_⟩
    · simp at hy
      subst hy
      exact fun e => hq (e ▸ hx)
    · rcases List.mem_append.mp hx with hx | hx
      · exact g.re x hx
      · simp at hx
        subst hx
        exact h
theorem kput_ext (ks : List Int) (q : Int) : ∃ e, kput ks q = ks ++ e := by
  by_cases hq : q ∈ ks
  · exact ⟨[], by rw [kput_mem hq, List.append_nil]⟩
  · exact ⟨[q], kput_new hq⟩
theorem mem_kput (ks : List Int) (q : Int) : q ∈ kput ks q := by
  by_cases hq : q ∈ ks
  · rw [kput_mem hq]
    exact hq
  · rw [kput_new hq]
    simp
def addRows (A : Au) (s : Int) : List (List Int) → List Int → List Int
  | [], ks => ks
  | r :: rs, ks => addRows A s rs (kput ks (nx A s r))
theorem addRows_ext {A : Au} {s : Int} : ∀ (rs : List (List Int)) (ks : List Int), ∃ e, addRows A s rs ks = ks ++ e
  | [], ks => ⟨[], by simp [addRows]⟩
  | r :: rs, ks => by
    obtain ⟨e1, h1⟩ := kput_ext ks (nx A s r)
    obtain ⟨e2, h2⟩ := addRows_ext rs (kput ks (nx A s r))
    exact ⟨e1 ++ e2, by rw [addRows, h2, h1, List.append_assoc]⟩
theorem addRows_mem {A : Au} {s : Int} : ∀ {rs : List (List Int)} {ks : List Int} {r : List Int}, r ∈ rs → nx A s r ∈ addRows A s rs ks
  | r0 :: rs, ks, r, h => by
    rw [addRows]
    rcases List.mem_cons.mp h with rfl | h
    · obtain ⟨e, he⟩ := addRows_ext (A := A) (s := s) rs (kput ks (nx A s r))
      rw [he]
      exact List.mem_append_left _ (mem_kput _ _)
    · exact addRows_mem h
theorem addRows_good {A : Au} {s : Int} : ∀ {rs : List (List Int)} {ks : List Int}, Good A ks → (∀ r ∈ rs, Reach A (nx A s r)) → Good A (addRows A s rs ks)
  | [], _, g, _ => g
  | r :: rs, ks, g, h => by
    rw [addRows]
    exact addRows_good (g.put (h r List.mem_cons_self)) fun x hx => h x (List.mem_cons_of_mem _ hx)
def rnd (A : Au) (f : List Int → List Int) : List (Int × Int) → List Int → List Int
  | [], ks => ks
  | p :: r, ks => rnd A f r (addRows A p.1 (rowsOf (f ks) p.2.toNat) ks)
/-- a symbol with its arity -/
def PairOk (A : Au) (p : Int × Int) : Prop := 0 ≤ p.1 ∧ A.ar[p.1.toNat]? = some p.2 ∧ 0 ≤ p.2 ∧ p.2 ≤ 2
theorem rows_reach {A : Au} {p : Int × Int} (hp : PairOk A p) {ks : List Int} (h : ∀ q ∈ ks, Reach A q) : ∀ r ∈ rowsOf ks p.2.toNat, Reach A (nx A p.1 r) := fun r hr => by
  obtain ⟨h1, h2⟩ := mem_rowsOf.mp hr
  refine .mk hp.1 ?_ fun q hq => h q (h2 q hq)
  rw [hp.2.1, h1]
  have := hp.2.2.1
  congr 1
  omega
section
variable {A : Au} {f : List Int → List Int} (hf : ∀ ks q, q ∈ f ks ↔ q ∈ ks)
include hf
theorem rnd_good : ∀ {ps : List (Int × Int)} {ks : List Int}, (∀ p ∈ ps, PairOk A p) → Good A ks → Good A (rnd A f ps ks)
  | [], _, _, g => g
  | p :: r, ks, h, g => by
    rw [rnd]
    exact rnd_good (fun q hq => h q (List.mem_cons_of_mem _ hq)) (addRows_good g (rows_reach (h p List.mem_cons_self) fun q hq => g.re q ((hf ks q).mp hq)))
omit hf in
theorem rnd_ext : ∀ (ps : List (Int × Int)) (ks : List Int), ∃ e, rnd A f ps ks = ks ++ e
  | [], ks => ⟨[], by simp [rnd]⟩
  | p :: r, ks => by
    obtain ⟨e1, h1⟩ := addRows_ext (A := A) (s := p.1) (rowsOf (f ks) p.2.toNat) ks
    obtain ⟨e2, h2⟩ := rnd_ext r (addRows A p.1 (rowsOf (f ks) p.2.toNat) ks)
    exact ⟨e1 ++ e2, by rw [rnd, h2, h1, List.append_assoc]⟩
/-- a round that adds nothing -/
theorem rnd_still : ∀ {ps : List (Int × Int)} {ks : List Int}, (rnd A f ps ks).length = ks.length → rnd A f ps ks = ks ∧ ∀ p ∈ ps, ∀ row : List Int, row.length = p.2.toNat → (∀ q ∈ row, q ∈ ks) → nx A p.1 row ∈ ks
  | [], ks, _ => ⟨rfl, fun _ h => (nomatch h)⟩
  | p :: r, ks, h => by
    obtain ⟨e1, h1⟩ := addRows_ext (A := A) (s := p.1) (rowsOf (f ks) p.2.toNat) ks
    obtain ⟨e2, h2⟩ := rnd_ext (A := A) (f := f) r (addRows A p.1 (rowsOf (f ks) p.2.toNat) ks)
    rw [rnd] at h ⊢
    have hl := h
    rw [h2, h1, List.length_append, List.length_append] at hl
    have he : e1 = [] := List.eq_nil_of_length_eq_zero (by omega)
    rw [he, List.append_nil] at h1
    rw [h1] at h ⊢
    obtain ⟨h3, h4⟩ := rnd_still h
    refine ⟨h3, fun p' hp' row hr hq => ?_⟩
    rcases List.mem_cons.mp hp' with rfl | hp'
    · have := addRows_mem (A := A) (s := p'.1) (ks := ks) (mem_rowsOf.mpr ⟨hr, fun q hq' => (hf ks q).mpr (hq q hq')⟩ : row ∈ rowsOf (f ks) p'.2.toNat)
      rw [h1] at this
      exact this
    · exact h4 p' hp' row hr hq
end
def pairs (A : Au) : List (Int × Int) := A.ar.mapIdx fun (i : Nat) a => ((i : Int), a)
theorem ar_range {A : Au} (hA : A.ok) {i : Nat} {a : Int} (h : A.ar[i]? = some a) : 0 ≤ a ∧ a ≤ 2 := by
  have hl : i < A.st.length := by
    rw [hA.sl]
    exact (List.getElem?_eq_some_iff.mp h).1
  have ok := hA.en _ _ _ h (List.getElem?_eq_getElem hl)
  generalize A.st[i] = e at ok
  cases e with
  | e0 q =>
    have := ok.1
    omega
  | e1 q =>
    have := ok.1
    omega
  | e2 q =>
    have := ok.1
    omega
theorem pairs_mem {A : Au} {p : Int × Int} (hA : A.ok) : p ∈ pairs A ↔ PairOk A p := by
  unfold pairs
  rw [List.mem_mapIdx]
  constructor
  · rintro ⟨i, hi, rfl⟩
    have e := List.getElem?_eq_getElem hi
    obtain ⟨h1, h2⟩ := ar_range hA e
    exact ⟨by simp, by simpa using e, h1, h2⟩
  · rintro ⟨h1, h2, h3, h4⟩
    obtain ⟨hi, e⟩ := List.getElem?_eq_some_iff.mp h2
    refine ⟨p.1.toNat, hi, ?_⟩
    rw [e, Int.toNat_of_nonneg h1]
def Closed (A : Au) (ks : List Int) : Prop := ∀ p, PairOk A p → ∀ row : List Int, row.length = p.2.toNat → (∀ q ∈ row, q ∈ ks) → nx A p.1 row ∈ ks
theorem Closed.all {A : Au} (hA : A.ok) {ks : List Int} (c : Closed A ks) {q : Int} (h : Reach A q) : q ∈ ks := by
  induction h with
  | @mk s row hs ha hr ih =>
    obtain ⟨h1, h2⟩ := ar_range hA ha
    exact c (s, (row.length : Int)) ⟨hs, ha, h1, h2⟩ row (by simp) ih
/-- the reachable states, sorted -/
structure IsR (A : Au) (R : List Int) : Prop where
  so : R.Pairwise (· ≤ ·)
  nd : R.Nodup
  me : ∀ q, q ∈ R ↔ Reach A q
theorem IsR.of {A : Au} (hA : A.ok) {ks : List Int} (g : Good A ks) (c : Closed A ks) : IsR A (isort ks) :=
  ⟨isort_sorted ks, (isort_perm ks).nodup_iff.mpr g.nd, fun q => ⟨fun h => g.re q ((isort_perm ks).mem_iff.mp h), fun h => (isort_perm ks).mem_iff.mpr (c.all hA h)⟩⟩
theorem IsR.eq {A : Au} {R S : List Int} (r : IsR A R) (s : IsR A S) : R = S :=
  List.Perm.eq_of_pairwise (fun a b _ _ h1 h2 => Int.le_antisymm h1 h2) r.so s.so ((List.perm_ext_iff_of_nodup r.nd s.nd).mpr fun q => (r.me q).trans (s.me q).symm)
theorem isort_mem (ks : List Int) (q : Int) : q ∈ isort ks ↔ q ∈ ks := (isort_perm ks).mem_iff
theorem still_closed {A : Au} (hA : A.ok) {f : List Int → List Int} (hf : ∀ ks q, q ∈ f ks ↔ q ∈ ks) {ks : List Int} (h : (rnd A f (pairs A) ks).length = ks.length) : rnd A f (pairs A) ks = ks ∧ Closed A ks := by
  obtain ⟨h1, h2⟩ := rnd_still hf h
  exact ⟨h1, fun p hp row => h2 p ((pairs_mem hA).mpr hp) row⟩
theorem closed_still {A : Au} (hA : A.ok) {f : List Int → List Int} (hf : ∀ ks q, q ∈ f ks ↔ q ∈ ks) {ks : List Int} (g : Good A ks) (c : Closed A ks) : rnd A f (pairs A) ks = ks := by
  obtain ⟨e, he⟩ := rnd_ext (A := A) (f := f) (pairs A) ks
  have g' := rnd_good hf (fun p hp => (pairs_mem hA).mp hp) g (ps := pairs A)
  cases e with
  | nil => rw [he, List.append_nil]
  | cons q r =>
    rw [he] at g'
    have h1 := c.all hA (g'.re q (by simp))
    have h2 := List.nodup_append.mp g'.nd
    exact absurd rfl (h2.2.2 q h1 q (by simp))
end K7
end
section
set_option maxRecDepth 100000
/-! K76, plain law, part e: reachable, both ways. -/
namespace K7
open PySem L2
def RowOk (A : Au) (s : Int) (r : List Int) : Prop := 0 ≤ s ∧ A.ar[s.toNat]? = some (r.length : Int) ∧ ∀ q ∈ r, Reach A q
theorem RowOk.reach {A : Au} {s : Int} {r : List Int} (h : RowOk A s r) : Reach A (nx A s r) := .mk h.1 h.2.1 h.2.2
theorem RowOk.m {A : Au} (hA : A.ok) {s : Int} {r : List Int} (h : RowOk A s r) : m_next_state [A.d, .int s, pd r] = some (.int (nx A s r)) := (nx_ok hA h.1 h.2.1 fun q hq => (h.2.2 q hq).inr hA).2 _ rfl
theorem rows_ok {A : Au} {p : Int × Int} (hp : PairOk A p) {ks : List Int} (h : ∀ q ∈ ks, Reach A q) : ∀ r ∈ rowsOf ks p.2.toNat, RowOk A p.1 r := fun r hr => by
  obtain ⟨h1, h2⟩ := mem_rowsOf.mp hr
  refine ⟨hp.1, ?_, fun q hq => h q (h2 q hq)⟩
  rw [hp.2.1, h1]
  have := hp.2.2.1
  congr 1
  omega
def bIn : SF Unit := fPutD 1 (fCall 3 m_next_state (aCons (fN 0) (aCons (fN 3) (aCons (fN 5) aNil))))
def bOut : SF Unit := fFor (sSeq (fCall 2 m_rows_of (aCons (fUn dSorted (fNw 1)) (aCons (fN 4) aNil)))) (gN 5) bIn
def bWh : SF Unit := fSeq (fAsg (fUn dLen (fNw 1)) (gN 2)) (fFor (sEnum (fBin dItem (fNw 0) (fC (.int 0)))) (gT 2 (gsCons 3 (gsCons 4 gsNil))) bOut)
section
variable {A : Au} (hA : A.ok)
include hA
theorem in_step : ∀ (rs : List (List Int)) (ks : List Int) (s : Int) (b x4 j : SV), Good A ks → (∀ r ∈ rs, RowOk A s r) →
    ∃ j', forGo (gN 5) bIn (rs.map pd) [.im A.d, .od ks, b, .im (.int s), x4, j] () = .nx [.im A.d, .od (addRows A s rs ks), b, .im (.int s), x4, j'] ()
  | [], ks, s, b, x4, j, _, _ => ⟨j, rfl⟩
  | r :: rs, ks, s, b, x4, j, g, h => by
    have hr := h r List.mem_cons_self
    obtain ⟨j', e⟩ := in_step rs (kput ks (nx A s r)) s b x4 (.im (pd r)) (g.put hr.reach) fun x hx => h x (List.mem_cons_of_mem _ hx)
    have hl := g.len hA
    refine ⟨j', (go_nx (ρ1 := [.im A.d, .od ks, b, .im (.int s), x4, .im (pd r)]) (ρ2 := [.im A.d, .od (kput ks (nx A s r)), b, .im (.int s), x4, .im (pd r)]) (s2 := ()) rfl ?_).trans (by rw [e]; rfl)⟩
    have e2 := hr.m hA
    simp [bIn, e2, show ks.length < 100000 by omega]
theorem out_step {p : Int × Int} (hp : PairOk A p) {ks : List Int} (g : Good A ks) (b j : SV) :
    ∃ j', bOut [.im A.d, .od ks, b, .im (.int p.1), .im (.int p.2), j] () = .nx [.im A.d, .od (addRows A p.1 (rowsOf (isort ks) p.2.toNat) ks), b, .im (.int p.1), .im (.int p.2), j'] () := by
  have hl := g.len hA
  obtain ⟨j', e⟩ := in_step hA (rowsOf (isort ks) p.2.toNat) ks p.1 b (.im (.int p.2)) j g (rows_ok hp fun q hq => g.re q ((isort_mem ks q).mp hq))
  have hp2 := hp.2.2.1
  have hp3 := hp.2.2.2
  have er := rows_of_m (ks := isort ks) (k := p.2.toNat) (by omega) (by rw [(isort_perm ks).length_eq]; exact hl)
  rw [Int.toNat_of_nonneg hp2] at er
  refine ⟨j', (for_go (ds := (rowsOf (isort ks) p.2.toNat).map pd) (s' := ()) ?_).trans e⟩
  simp [sorted_d (show ks.length < 64 by omega), er]
def encP (p : Int × Int) : D := .tup [.int p.1, .int p.2]
theorem outs_step : ∀ (ps : List (Int × Int)) (ks : List Int) (b j3 j4 j5 : SV), Good A ks → (∀ p ∈ ps, PairOk A p) →
    ∃ j3' j4' j5', forGo (gT 2 (gsCons 3 (gsCons 4 gsNil))) bOut (ps.map encP) [.im A.d, .od ks, b, j3, j4, j5] () = .nx [.im A.d, .od (rnd A isort ps ks), b, j3', j4', j5'] ()
  | [], ks, b, j3, j4, j5, _, _ => ⟨j3, j4, j5, rfl⟩
  | p :: ps, ks, b, j3, j4, j5, g, h => by
    have hp := h p List.mem_cons_self
    obtain ⟨k5, e1⟩ := out_step hA hp g b j5
    have g' := addRows_good g (rows_reach hp (ks := isort ks) fun q hq => g.re q ((isort_mem ks q).mp hq))
    obtain ⟨j3', j4', j5', e2⟩ := outs_step ps _ b (.im (.int p.1)) (.im (.int p.2)) k5 g' fun x hx => h x (List.mem_cons_of_mem _ hx)
    exact ⟨j3', j4', j5', (go_nx (d := encP p) (by simp [encP]) e1).trans e2⟩
omit hA in
theorem enum_pairs : (A.ar.map D.int).mapIdx (fun (i : Nat) d => D.tup [.int i, d]) = (pairs A).map encP := by
  apply List.ext_getElem?
  intro i
  simp only [pairs, encP, List.getElem?_mapIdx, List.getElem?_map]
  cases A.ar[i]? <;> rfl
theorem body_step {ks : List Int} (g : Good A ks) (b j3 j4 j5 : SV) : ∃ j3' j4' j5', bWh [.im A.d, .od ks, b, j3, j4, j5] () = .nx [.im A.d, .od (rnd A isort (pairs A) ks), .im (.int ks.length), j3', j4', j5'] () := by
  obtain ⟨j3', j4', j5', e⟩ := outs_step hA (pairs A) ks (.im (.int ks.length)) j3 j4 j5 g fun p hp => (pairs_mem hA).mp hp
  refine ⟨j3', j4', j5', ?_⟩
  refine (seq_nx (ρ' := [.im A.d, .od ks, .im (.int ks.length), j3, j4, j5]) (s' := ()) (by simp)).trans ?_
  refine (for_go (ds := (pairs A).map encP) (s' := ()) ?_).trans e
  rw [← enum_pairs]
  simp [Au.d, pd]
theorem wh_step : ∀ (n : Nat) (ks : List Int) (b : Int) (j3 j4 j5 : SV), Good A ks → ((b < ks.length ∧ 6 ≤ n + ks.length) ∨ (¬ b < ks.length ∧ 1 ≤ n ∧ Closed A ks)) →
    ∃ ks' b' j3' j4' j5', fWhile (fT (fBin dGt (fUn dLen (fNw 1)) (fNw 2))) bWh n [.im A.d, .od ks, .im (.int b), j3, j4, j5] () = .nx [.im A.d, .od ks', b', j3', j4', j5'] () ∧ Good A ks' ∧ Closed A ks'
  | 0, ks, b, j3, j4, j5, g, h => by
    have := g.len hA
    rcases h with h | h
    · omega
    · omega
  | n + 1, ks, b, j3, j4, j5, g, h => by
    have hl := g.len hA
    rcases h with h | h
    · obtain ⟨k3, k4, k5, e⟩ := body_step hA g (.im (.int b)) j3 j4 j5
      have g' := rnd_good (A := A) (f := isort) isort_mem (fun p hp => (pairs_mem hA).mp hp) g (ps := pairs A)
      obtain ⟨x, hx⟩ := rnd_ext (A := A) (f := isort) (pairs A) ks
      have hle : ks.length ≤ (rnd A isort (pairs A) ks).length := by rw [hx, List.length_append]; omega
      obtain ⟨ks', b', j3', j4', j5', e2, h2⟩ := wh_step n (rnd A isort (pairs A) ks) ks.length k3 k4 k5 g' (by
        by_cases hq : (rnd A isort (pairs A) ks).length = ks.length
        · obtain ⟨h3, h4⟩ := still_closed hA isort_mem hq
          exact .inr ⟨by omega, by omega, by rw [h3]; exact h4⟩
        · exact .inl ⟨by omega, by omega⟩)
      refine ⟨ks', b', j3', j4', j5', ?_, h2⟩
      simp [fWhile, h.1, e, e2]
    · exact ⟨ks, .im (.int b), j3, j4, j5, by simp [fWhile, h.1], g, h.2.2⟩
theorem reachable_m : ∃ R, m_reachable [A.d] = some (pd R) ∧ IsR A R := by
  obtain ⟨ks', b', j3', j4', j5', e, g, c⟩ := wh_step hA 8 [] (-1) .un .un .un ⟨List.nodup_nil, fun _ h => (nomatch h)⟩ (.inl ⟨by decide, by decide⟩)
  have hl := g.len hA
  refine ⟨isort ks', ?_, .of hA g c⟩
  refine run_rt ?_
  refine (seq_nx (ρ' := [.im A.d, .od [], .un, .un, .un, .un]) (s' := ()) (by simp)).trans ?_
  refine (seq_nx (ρ' := [.im A.d, .od [], .im (.int (-1)), .un, .un, .un]) (s' := ()) (by simp)).trans ?_
  refine (seq_nx (s' := ()) e).trans ?_
  simp [sorted_d (show ks'.length < 64 by omega), pd]
end
/-! ### the law's way -/
def lbRow : SF Unit := fAsg (fBin dAdd (fNw 8) (fLc (sSeq (fNw 1)) (gN 9) fYes (fBin dAdd (fNw 7) (fTup (aCons (fN 9) aNil))) [9])) (gN 8)
def lbK : SF Unit := fSeq (fAsg (fLst aNil) (gN 8)) (fSeq (fFor (sSeq (fN 5)) (gN 7) lbRow) (fAsg (fN 8) (gN 5)))
def lbAdd : SF Unit := fSeq (fAsg (fCall 3 m_L_next_state (aCons (fN 0) (aCons (fN 3) (aCons (fN 7) aNil)))) (gN 9)) (fIf (fT (fBin dNotIn (fNw 9) (fNw 1))) (fApp 1 (fN 9)) fNext)
def lbS : SF Unit := fSeq (fAsg (fBin dItem (fBin dItem (fNw 0) (fC (.int 0))) (fNw 3)) (gN 4)) (fSeq (fAsg (fLst (aCons (fTup aNil) aNil)) (gN 5)) (fSeq (fFor (sRg1 (fNw 4)) (gN 6) lbK) (fFor (sSeq (fN 5)) (gN 7) lbAdd)))
def lbT : SF Unit := fFor (sRg1 (fUn dLen (fBin dItem (fNw 0) (fC (.int 0))))) (gN 3) lbS
/-- the slots of _law_reachable -/
def Ls (A : Au) (ks : List Int) (t2 s3 a4 r5 k6 w7 l8 f9 : SV) : List SV := [.im A.d, .ow (ks.map D.int), t2, s3, a4, r5, k6, w7, l8, f9]
section
variable {A : Au} (hA : A.ok) {ks : List Int}
theorem lrow_go (hl : ks.length ≤ 4) {t2 s3 a4 r5 k6 f9 : SV} (h9 : f9.own = false) : ∀ (rs acc : List (List Int)) (w7 : SV), (∀ r ∈ rs, r.length ≤ 2) → acc.length + 4 * rs.length ≤ 1000 →
    ∃ w7', forGo (gN 7) lbRow (rs.map pd) (Ls A ks t2 s3 a4 r5 k6 w7 (.im (.lst (acc.map pd))) f9) () = .nx (Ls A ks t2 s3 a4 r5 k6 w7' (.im (.lst ((acc ++ rs.flatMap fun r => ks.map fun q => r ++ [q]).map pd))) f9) ()
  | [], acc, w7, _, _ => ⟨w7, by simp [forGo]⟩
  | r :: rs, acc, w7, hr, hz => by
    have hr0 := hr r List.mem_cons_self
    simp at hz
    obtain ⟨w7', e⟩ := lrow_go hl h9 rs (acc ++ ks.map fun q => r ++ [q]) (.im (pd r)) (fun x hx => hr x (List.mem_cons_of_mem _ hx)) (by simp; omega)
    have el := lc_map (S := Unit) (s := ()) (ρ := Ls A ks t2 s3 a4 r5 k6 (.im (pd r)) (.im (.lst (acc.map pd))) .un) (gf := gN 9) (fe := fBin dAdd (fNw 7) (fTup (aCons (fN 9) aNil))) (enc := D.int) (g := fun q => pd (r ++ [q])) (xs := ks) fun q _ => ⟨_, rfl, by simp [Ls, pd, show r.length ≤ 99999 by omega]⟩
    refine ⟨w7', (go_nx (ρ1 := Ls A ks t2 s3 a4 r5 k6 (.im (pd r)) (.im (.lst (acc.map pd))) f9) (ρ2 := Ls A ks t2 s3 a4 r5 k6 (.im (pd r)) (.im (.lst ((acc ++ ks.map fun q => r ++ [q]).map pd))) f9) (s2 := ()) rfl ?_).trans (by rw [e]; simp [List.append_assoc])⟩
    simp [Ls] at el
    simp [lbRow, Ls, h9, show ks.length ≤ 100000 by omega, el, show acc.length + ks.length ≤ 100000 by omega, Function.comp_def]
theorem lk_go (hl : ks.length ≤ 4) {t2 s3 a4 k6 w7 l8 f9 : SV} (h9 : f9.own = false) {k : Nat} (hk : k < 2) : ∃ w7' l8', lbK (Ls A ks t2 s3 a4 (.im (.lst ((rowsOf ks k).map pd))) k6 w7 l8 f9) () = .nx (Ls A ks t2 s3 a4 (.im (.lst ((rowsOf ks (k + 1)).map pd))) k6 w7' l8' f9) () := by
  have hz := pow4 hl (show k ≤ 2 by omega)
  rw [← rowsOf_len] at hz
  obtain ⟨w7', e⟩ := lrow_go (A := A) hl h9 (t2 := t2) (s3 := s3) (a4 := a4) (r5 := .im (.lst ((rowsOf ks k).map pd))) (k6 := k6) (rowsOf ks k) [] w7 (fun r hr => by have := (mem_rowsOf.mp hr).1; omega) (by simp; omega)
  refine ⟨w7', .im (.lst ((rowsOf ks (k + 1)).map pd)), ?_⟩
  refine (seq_nx (ρ' := Ls A ks t2 s3 a4 (.im (.lst ((rowsOf ks k).map pd))) k6 w7 (.im (.lst [])) f9) (s' := ()) (by simp [Ls])).trans ?_
  refine (seq_nx (s' := ()) ((for_go (ds := (rowsOf ks k).map pd) (s' := ()) (by simp [Ls])).trans e)).trans ?_
  simp [Ls, rowsOf]
theorem ladd_go (hA : A.ok) {t2 a4 r5 k6 l8 : SV} {s : Int} : ∀ (rs : List (List Int)) (ks : List Int) (w7 f9 : SV), f9.own = false → Good A ks → (∀ r ∈ rs, RowOk A s r) →
    ∃ w7' f9', f9'.own = false ∧ forGo (gN 7) lbAdd (rs.map pd) (Ls A ks t2 (.im (.int s)) a4 r5 k6 w7 l8 f9) () = .nx (Ls A (addRows A s rs ks) t2 (.im (.int s)) a4 r5 k6 w7' l8 f9') ()
  | [], ks, w7, f9, h9, _, _ => ⟨w7, f9, h9, rfl⟩
  | r :: rs, ks, w7, f9, h9, g, h => by
    have hr := h r List.mem_cons_self
    have hl := g.len hA
    obtain ⟨w7', f9', h9', e⟩ := ladd_go hA (t2 := t2) (a4 := a4) (r5 := r5) (k6 := k6) (l8 := l8) (s := s) rs (kput ks (nx A s r)) (.im (pd r)) (.im (.int (nx A s r))) rfl (g.put hr.reach) fun x hx => h x (List.mem_cons_of_mem _ hx)
    refine ⟨w7', f9', h9', (go_nx (ρ1 := Ls A ks t2 (.im (.int s)) a4 r5 k6 (.im (pd r)) l8 f9) (ρ2 := Ls A (kput ks (nx A s r)) t2 (.im (.int s)) a4 r5 k6 (.im (pd r)) l8 (.im (.int (nx A s r)))) (s2 := ()) rfl ?_).trans (by rw [e]; rfl)⟩
    have e2 := hr.m hA
    by_cases hq : nx A s r ∈ ks
    · simp [lbAdd, L_next_state_eq, Ls, e2, hq, kput_mem hq]
    · simp [lbAdd, L_next_state_eq, Ls, e2, hq, kput_new hq, show ks.length < 100000 by omega]
theorem ls_go (hA : A.ok) {p : Int × Int} (hp : PairOk A p) (g : Good A ks) {t2 a4 r5 k6 w7 l8 f9 : SV} (h9 : f9.own = false) :
    ∃ a4' r5' k6' w7' l8' f9', f9'.own = false ∧ lbS (Ls A ks t2 (.im (.int p.1)) a4 r5 k6 w7 l8 f9) () = .nx (Ls A (addRows A p.1 (rowsOf ks p.2.toNat) ks) t2 (.im (.int p.1)) a4' r5' k6' w7' l8' f9') () := by
  have hl := g.len hA
  have ea : atI (A.ar.map D.int) p.1 = some (.int p.2) := at_ints hp.1 hp.2.1
  have hp2 := hp.2.2.1
  have hp3 := hp.2.2.2
  have key : ∃ k6' w7' l8', fFor (sRg1 (fNw 4)) (gN 6) lbK (Ls A ks t2 (.im (.int p.1)) (.im (.int p.2)) (.im (.lst ((rowsOf ks 0).map pd))) k6 w7 l8 f9) () = .nx (Ls A ks t2 (.im (.int p.1)) (.im (.int p.2)) (.im (.lst ((rowsOf ks p.2.toNat).map pd))) k6' w7' l8' f9) () := by
    rcases (show p.2 = 0 ∨ p.2 = 1 ∨ p.2 = 2 by omega) with h | h | h
    · exact ⟨k6, w7, l8, (for_go (ds := []) (s' := ()) (by simp [Ls, h, rg0])).trans (by rw [h]; rfl)⟩
    · obtain ⟨w1, l1, e1⟩ := lk_go (A := A) hl h9 (t2 := t2) (s3 := .im (.int p.1)) (a4 := .im (.int p.2)) (k6 := .im (.int 0)) (w7 := w7) (l8 := l8) (k := 0) (by decide)
      exact ⟨.im (.int 0), w1, l1, (for_go (ds := [.int 0]) (s' := ()) (by simp [Ls, h, rg1])).trans ((go_nx rfl e1).trans (by rw [h]; rfl))⟩
    · obtain ⟨w1, l1, e1⟩ := lk_go (A := A) hl h9 (t2 := t2) (s3 := .im (.int p.1)) (a4 := .im (.int p.2)) (k6 := .im (.int 0)) (w7 := w7) (l8 := l8) (k := 0) (by decide)
      obtain ⟨w2, l2, e2⟩ := lk_go (A := A) hl h9 (t2 := t2) (s3 := .im (.int p.1)) (a4 := .im (.int p.2)) (k6 := .im (.int 1)) (w7 := w1) (l8 := l1) (k := 1) (by decide)
      exact ⟨.im (.int 1), w2, l2, (for_go (ds := [.int 0, .int 1]) (s' := ()) (by simp [Ls, h, rg2])).trans ((go_nx rfl e1).trans ((go_nx rfl e2).trans (by rw [h]; rfl)))⟩
  obtain ⟨k6', w7', l8', e1⟩ := key
  obtain ⟨w7'', f9', h9', e2⟩ := ladd_go hA (t2 := t2) (a4 := .im (.int p.2)) (r5 := .im (.lst ((rowsOf ks p.2.toNat).map pd))) (k6 := k6') (l8 := l8') (s := p.1) (rowsOf ks p.2.toNat) ks w7' f9 h9 g (rows_ok hp g.re)
  refine ⟨.im (.int p.2), .im (.lst ((rowsOf ks p.2.toNat).map pd)), k6', w7'', l8', f9', h9', ?_⟩
  refine (seq_nx (ρ' := Ls A ks t2 (.im (.int p.1)) (.im (.int p.2)) r5 k6 w7 l8 f9) (s' := ()) (by simp [Ls, Au.d, pd, ea])).trans ?_
  refine (seq_nx (ρ' := Ls A ks t2 (.im (.int p.1)) (.im (.int p.2)) (.im (.lst ((rowsOf ks 0).map pd))) k6 w7 l8 f9) (s' := ()) (by simp [Ls, rowsOf, pd])).trans ?_
  refine (seq_nx (s' := ()) e1).trans ?_
  exact (for_go (ds := (rowsOf ks p.2.toNat).map pd) (s' := ()) (by simp [Ls])).trans e2
theorem lss_go (hA : A.ok) {t2 : SV} : ∀ (ps : List (Int × Int)) (ks : List Int) (s3 a4 r5 k6 w7 l8 f9 : SV), f9.own = false → Good A ks → (∀ p ∈ ps, PairOk A p) →
    ∃ s3' a4' r5' k6' w7' l8' f9', f9'.own = false ∧ forGo (gN 3) lbS (ps.map fun p => D.int p.1) (Ls A ks t2 s3 a4 r5 k6 w7 l8 f9) () = .nx (Ls A (rnd A id ps ks) t2 s3' a4' r5' k6' w7' l8' f9') ()
  | [], ks, s3, a4, r5, k6, w7, l8, f9, h9, _, _ => ⟨s3, a4, r5, k6, w7, l8, f9, h9, rfl⟩
  | p :: ps, ks, s3, a4, r5, k6, w7, l8, f9, h9, g, h => by
    have hp := h p List.mem_cons_self
    obtain ⟨a4', r5', k6', w7', l8', f9', h9', e1⟩ := ls_go hA hp g (t2 := t2) (a4 := a4) (r5 := r5) (k6 := k6) (w7 := w7) (l8 := l8) h9
    have g' := addRows_good g (rows_reach hp g.re)
    obtain ⟨b3, b4, b5, b6, b7, b8, b9, hb, e2⟩ := lss_go hA (t2 := t2) ps _ (.im (.int p.1)) a4' r5' k6' w7' l8' f9' h9' g' fun x hx => h x (List.mem_cons_of_mem _ hx)
    exact ⟨b3, b4, b5, b6, b7, b8, b9, hb, (go_nx rfl e1).trans e2⟩
theorem pairs_fst : (pairs A).map (fun p => D.int p.1) = rgD 0 A.ar.length := by
  apply List.ext_getElem?
  intro i
  simp only [pairs, List.getElem?_mapIdx, List.getElem?_map]
  by_cases h : i < A.ar.length
  · rw [rgD_get h, List.getElem?_eq_getElem h]
    simp
  · rw [List.getElem?_eq_none (by omega), List.getElem?_eq_none (by rw [rgD_len]; omega)]
    rfl
theorem lt_go (hA : A.ok) (g : Good A ks) {t2 s3 a4 r5 k6 w7 l8 f9 : SV} (h9 : f9.own = false) :
    ∃ s3' a4' r5' k6' w7' l8' f9', f9'.own = false ∧ lbT (Ls A ks t2 s3 a4 r5 k6 w7 l8 f9) () = .nx (Ls A (rnd A id (pairs A) ks) t2 s3' a4' r5' k6' w7' l8' f9') () := by
  obtain ⟨b3, b4, b5, b6, b7, b8, b9, hb, e2⟩ := lss_go hA (t2 := t2) (pairs A) ks s3 a4 r5 k6 w7 l8 f9 h9 g fun p hp => (pairs_mem hA).mp hp
  have ha := hA.al
  refine ⟨b3, b4, b5, b6, b7, b8, b9, hb, (for_go (ds := (pairs A).map fun p => D.int p.1) (s' := ()) ?_).trans e2⟩
  rw [pairs_fst]
  exact rg_of _ (by omega) (by simp [Ls, Au.d, pd])
theorem lall_go (hA : A.ok) : ∀ (ts : List D) (ks : List Int) (t2 s3 a4 r5 k6 w7 l8 f9 : SV), f9.own = false → Good A ks → (5 ≤ ts.length + ks.length ∨ Closed A ks) →
    ∃ ks' t2' s3' a4' r5' k6' w7' l8' f9', forGo (gN 2) lbT ts (Ls A ks t2 s3 a4 r5 k6 w7 l8 f9) () = .nx (Ls A ks' t2' s3' a4' r5' k6' w7' l8' f9') () ∧ Good A ks' ∧ Closed A ks'
  | [], ks, t2, s3, a4, r5, k6, w7, l8, f9, h9, g, h => by
    have := g.len hA
    refine ⟨ks, t2, s3, a4, r5, k6, w7, l8, f9, rfl, g, h.elim (fun z => ?_) id⟩
    simp at z
    omega
  | t :: ts, ks, t2, s3, a4, r5, k6, w7, l8, f9, h9, g, h => by
    obtain ⟨b3, b4, b5, b6, b7, b8, b9, hb, e1⟩ := lt_go hA g (t2 := .im t) (s3 := s3) (a4 := a4) (r5 := r5) (k6 := k6) (w7 := w7) (l8 := l8) h9
    have g' := rnd_good (A := A) (f := id) (fun _ _ => Iff.rfl) (fun p hp => (pairs_mem hA).mp hp) g (ps := pairs A)
    obtain ⟨x, hx⟩ := rnd_ext (A := A) (f := id) (pairs A) ks
    have hle : ks.length ≤ (rnd A id (pairs A) ks).length := by rw [hx, List.length_append]; omega
    obtain ⟨ks', c2, c3, c4, c5, c6, c7, c8, c9, e2, h2⟩ := lall_go hA ts (rnd A id (pairs A) ks) (.im t) b3 b4 b5 b6 b7 b8 b9 hb g' (by
      rcases h with h | h
      · by_cases hq : (rnd A id (pairs A) ks).length = ks.length
        · obtain ⟨h3, h4⟩ := still_closed hA (f := id) (fun _ _ => Iff.rfl) hq
          exact .inr (by rw [h3]; exact h4)
        · exact .inl (by simp at h; omega)
      · exact .inr (by rw [closed_still hA (f := id) (fun _ _ => Iff.rfl) g h]; exact h))
    exact ⟨ks', c2, c3, c4, c5, c6, c7, c8, c9, (go_nx rfl e1).trans e2, h2⟩
theorem L_reachable_m (hA : A.ok) : ∃ R, m_L_reachable [A.d] = some (pd R) ∧ IsR A R := by
  obtain ⟨ks', c2, c3, c4, c5, c6, c7, c8, c9, e, g, c⟩ := lall_go hA (rgD 0 5) [] .un .un .un .un .un .un .un .un rfl ⟨List.nodup_nil, fun _ h => (nomatch h)⟩ (.inl (by simp [rgD]))
  refine ⟨isort ks', ?_, .of hA g c⟩
  refine run_rt ?_
  refine (seq_nx (ρ' := Ls A [] .un .un .un .un .un .un .un .un) (s' := ()) (by simp [Ls])).trans ?_
  refine (seq_nx (s' := ()) ((for_go (ds := rgD 0 5) (s' := ()) (by simp [Ls])).trans e)).trans ?_
  simp [Ls, pd]
end
end K7
end
section
set_option maxRecDepth 100000
/-! K76, plain law, part f: what comes, what is seen. -/
namespace K7
open PySem L2
def rowsS : List (List Int) → List (List Int)
  | [] => [[]]
  | [x] => x.map fun i => [i]
  | x :: y :: _ => x.flatMap fun i => y.map fun j => [i, j]
def comeL (A : Au) (s : Int) (sets : List (List Int)) : List Int := isort (addRows A s (rowsS sets) [])
def seenL (A : Au) (R : List Int) : T → Nat → List Int
  | _, 0 => R
  | .a s, _ + 1 => comeL A s []
  | .b s x, k + 1 => comeL A s [seenL A R x k]
  | .c s x y, k + 1 => comeL A s [seenL A R x k, seenL A R y k]
theorem rowsS_ok {A : Au} {s : Int} {sets : List (List Int)} (hs : 0 ≤ s) (ha : A.ar[s.toNat]? = some (sets.length : Int)) (h : ∀ x ∈ sets, Good A x) (hl : sets.length ≤ 2) : ∀ r ∈ rowsS sets, RowOk A s r := by
  match sets, hl with
  | [], _ =>
    intro r hr
    simp [rowsS] at hr
    subst hr
    exact ⟨hs, ha, fun _ z => (nomatch z)⟩
  | [x], _ =>
    intro r hr
    simp [rowsS] at hr
    obtain ⟨i, hi, rfl⟩ := hr
    exact ⟨hs, ha, fun q z => by
      simp at z
      subst z
      exact (h x (by simp)).re _ hi⟩
  | [x, y], _ =>
    intro r hr
    simp [rowsS] at hr
    obtain ⟨i, hi, j, hj, rfl⟩ := hr
    exact ⟨hs, ha, fun q z => by
      simp at z
      rcases z with rfl | rfl
      · exact (h x (by simp)).re _ hi
      · exact (h y (by simp)).re _ hj⟩
theorem Good.sort {A : Au} {ks : List Int} (g : Good A ks) : Good A (isort ks) := ⟨(isort_perm ks).nodup_iff.mpr g.nd, fun q h => g.re q ((isort_mem ks q).mp h)⟩
theorem Good.nil {A : Au} : Good A [] := ⟨List.nodup_nil, fun _ h => (nomatch h)⟩
theorem IsR.good {A : Au} {R : List Int} (h : IsR A R) : Good A R := ⟨h.nd, fun q hq => (h.me q).mp hq⟩
theorem come_good {A : Au} {s : Int} {sets : List (List Int)} (hs : 0 ≤ s) (ha : A.ar[s.toNat]? = some (sets.length : Int)) (h : ∀ x ∈ sets, Good A x) (hl : sets.length ≤ 2) : Good A (addRows A s (rowsS sets) []) :=
  addRows_good .nil fun r hr => (rowsS_ok hs ha h hl r hr).reach
theorem seen_good {A : Au} {R : List Int} (hR : IsR A R) : ∀ {t : T} {k : Nat}, t.ok A.ar → Good A (seenL A R t k)
  | t, 0, h => by
    unfold seenL
    exact hR.good
  | .a s, k + 1, h => (come_good (sets := []) h.1 h.2 (by simp) (by decide)).sort
  | .b s x, k + 1, h => (come_good (sets := [seenL A R x k]) h.1 h.2.1 (by simpa using seen_good hR h.2.2) (Nat.le_succ 1)).sort
  | .c s x y, k + 1, h => (come_good (sets := [seenL A R x k, seenL A R y k]) h.1 h.2.1 (by simpa using ⟨seen_good hR h.2.2.1, seen_good hR h.2.2.2⟩) (Nat.le_refl 2)).sort
@[simp] theorem fDc_ {S : Type} {ρ : List SV} {s : S} {fi : AF S} {gf : GF} {ft : TF S} {fk : EF S} {vs : List Nat} : fDc fi gf ft fk vs ρ s = (if vs.all (notOwn ρ) = true then (fi ρ s).bind fun p => if p.1.length ≤ 100000 then (dcGo gf ft fk (wipeS ρ vs) p.1 [] p.2).map fun q => (.dic q.1, q.2) else none else none) := rfl
theorem dc_rows {A : Au} (hA : A.ok) {s : Int} {x2 x3 x4 x5 : SV} : ∀ (rs : List (List Int)) (ks : List Int), (∀ r ∈ rs, RowOk A s r) →
    dcGo (gN 6) fYes (fCall 3 m_next_state (aCons (fN 0) (aCons (fN 1) (aCons (fN 6) aNil)))) [.im A.d, .im (.int s), x2, x3, x4, x5, .un] (rs.map pd) ks () = some (addRows A s rs ks, ())
  | [], ks, _ => rfl
  | r :: rs, ks, h => by
    have ih := dc_rows hA (s := s) (x2 := x2) (x3 := x3) (x4 := x4) (x5 := x5) rs (kput ks (nx A s r)) fun x hx => h x (List.mem_cons_of_mem _ hx)
    have e := (h r List.mem_cons_self).m hA
    simp [dcGo, e, ih, addRows]
/-- the end of come -/
theorem come_end {A : Au} (hA : A.ok) {s : Int} {x2 x3 x4 x5 x6 : SV} {sets : List (List Int)} (hs : 0 ≤ s) (ha : A.ar[s.toNat]? = some (sets.length : Int)) (h : ∀ x ∈ sets, Good A x) (hl : sets.length ≤ 2) (hz : (rowsS sets).length ≤ 100000)
    (h3 : x3 = .ow ((rowsS sets).map pd) ∨ x3 = .im (.lst ((rowsS sets).map pd))) (h6 : x6.own = false) :
    fRet (fUn dTuple (fUn dSorted (fDc (sSeq (fNw 3)) (gN 6) fYes (fCall 3 m_next_state (aCons (fN 0) (aCons (fN 1) (aCons (fN 6) aNil)))) [6]))) [.im A.d, .im (.int s), x2, x3, x4, x5, x6] () = .rt (pd (comeL A s sets)) () := by
  have e := dc_rows hA (s := s) (x2 := x2) (x3 := x3) (x4 := x4) (x5 := x5) (rowsS sets) [] (rowsS_ok hs ha h hl)
  have hg := (come_good hs ha h hl).len hA
  rcases h3 with rfl | rfl <;> simp [h6, hz, e, sorted_d (show (addRows A s (rowsS sets) []).length < 64 by omega), pd, comeL]
theorem rowsS_len {A : Au} (hA : A.ok) {sets : List (List Int)} (h : ∀ x ∈ sets, Good A x) (hl : sets.length ≤ 2) : (rowsS sets).length ≤ 16 := by
  match sets, hl with
  | [], _ => simp [rowsS]
  | [x], _ =>
    have := (h x (by simp)).len hA
    simp [rowsS]
    omega
  | [x, y], _ =>
    have h1 := (h x (by simp)).len hA
    have h2 := (h y (by simp)).len hA
    have : (rowsS [x, y]).length = x.length * y.length := by
      simp only [rowsS, List.length_flatMap, List.length_map]
      rw [List.map_const', List.sum_replicate_nat]
    rw [this]
    exact Nat.le_trans (Nat.mul_le_mul h1 h2) (by decide)
theorem ext_go {A : Au} {s : Int} {y : List Int} {dl : List D} (h1 : dl[1]? = some (pd y)) (hy : y.length ≤ 4) : ∀ (xs : List Int) (acc : List (List Int)) (x4 x5 x6 : SV), x5.own = false → acc.length + 4 * xs.length ≤ 1000 →
    ∃ x4', forGo (gN 4) (fExt 3 (fLc (sSeq (fBin dItem (fNw 2) (fC (.int 1)))) (gN 5) fYes (fTup (aCons (fN 4) (aCons (fN 5) aNil))) [5])) (xs.map D.int) [.im A.d, .im (.int s), .im (.lst dl), .ow (acc.map pd), x4, x5, x6] () =
      .nx [.im A.d, .im (.int s), .im (.lst dl), .ow ((acc ++ xs.flatMap fun i => y.map fun j => [i, j]).map pd), x4', x5, x6] ()
  | [], acc, x4, x5, x6, _, _ => ⟨x4, by simp [forGo]⟩
  | i :: xs, acc, x4, x5, x6, h5, hz => by
    simp at hz
    obtain ⟨x4', e⟩ := ext_go (A := A) (s := s) h1 hy xs (acc ++ y.map fun j => [i, j]) (.im (.int i)) x5 x6 h5 (by simp; omega)
    have el := lc_map (S := Unit) (s := ()) (ρ := [.im A.d, .im (.int s), .im (.lst dl), .ow (acc.map pd), .im (.int i), .un, x6]) (gf := gN 5) (fe := fTup (aCons (fN 4) (aCons (fN 5) aNil))) (enc := D.int) (g := fun j => pd [i, j]) (xs := y) fun j _ => ⟨_, rfl, by simp [pd]⟩
    have h1' : dl[1]? = some (.tup (y.map D.int)) := h1
    refine ⟨x4', (go_nx (ρ1 := [.im A.d, .im (.int s), .im (.lst dl), .ow (acc.map pd), .im (.int i), x5, x6]) (ρ2 := [.im A.d, .im (.int s), .im (.lst dl), .ow ((acc ++ y.map fun j => [i, j]).map pd), .im (.int i), x5, x6]) (s2 := ()) rfl ?_).trans (by rw [e]; simp [List.append_assoc])⟩
    simp [h5, h1', show y.length ≤ 100000 by omega, el, show acc.length + y.length ≤ 100000 by omega, Function.comp_def]
theorem come_m {A : Au} (hA : A.ok) {s : Int} {sets : List (List Int)} (hs : 0 ≤ s) (ha : A.ar[s.toNat]? = some (sets.length : Int)) (h : ∀ x ∈ sets, Good A x) (hl : sets.length ≤ 2) : m_come [A.d, .int s, .lst (sets.map pd)] = some (pd (comeL A s sets)) := by
  have hz := rowsS_len hA h hl
  have fin := fun x4 x5 x6 h6 x3 h3 => come_end hA (x2 := .im (.lst (sets.map pd))) (x3 := x3) (x4 := x4) (x5 := x5) (x6 := x6) hs ha h hl (by omega) h3 h6
  refine run_rt ?_
  match sets, hl with
  | [], _ =>
    refine (seq_nx (ρ' := [.im A.d, .im (.int s), .im (.lst []), .ow ((rowsS []).map pd), .un, .un, .un]) (s' := ()) (by simp [rowsS, pd])).trans ?_
    exact fin _ _ _ rfl _ (.inl rfl)
  | [x], _ =>
    have hx := (h x (by simp)).len hA
    have el := lc_map (S := Unit) (s := ()) (ρ := [.im A.d, .im (.int s), .im (.lst [.tup (x.map D.int)]), .un, .un, .un, .un]) (gf := gN 4) (fe := fTup (aCons (fN 4) aNil)) (enc := D.int) (g := fun j => pd [j]) (xs := x) fun j _ => ⟨_, rfl, by simp [pd]⟩
    refine (seq_nx (ρ' := [.im A.d, .im (.int s), .im (.lst [pd x]), .im (.lst ((rowsS [x]).map pd)), .un, .un, .un]) (s' := ()) (by simp [rowsS, pd, show x.length ≤ 100000 by omega, el, Function.comp_def])).trans ?_
    exact fin _ _ _ rfl _ (.inr rfl)
  | [x, y], _ =>
    have hx := (h x (by simp)).len hA
    have hy := (h y (by simp)).len hA
    obtain ⟨x4', e⟩ := ext_go (A := A) (s := s) (dl := [pd x, pd y]) (y := y) rfl hy x [] .un .un .un rfl (by simp; omega)
    refine (seq_nx (ρ' := [.im A.d, .im (.int s), .im (.lst [pd x, pd y]), .ow ((rowsS [x, y]).map pd), x4', .un, .un]) (s' := ()) ?_).trans ?_
    · refine (if_f (s' := ()) (by simp)).trans ((if_f (s' := ()) (by simp)).trans ?_)
      refine (seq_nx (ρ' := [.im A.d, .im (.int s), .im (.lst [pd x, pd y]), .ow [], .un, .un, .un]) (s' := ()) (by simp)).trans ?_
      exact (for_go (ds := x.map D.int) (s' := ()) (by simp [pd])).trans (e.trans (by simp [rowsS]))
    · exact fin _ _ _ rfl _ (.inl rfl)
theorem seen_m {A : Au} (hA : A.ok) {R : List Int} (hR : IsR A R) (hr : m_reachable [A.d] = some (pd R)) : ∀ (j : Nat) (t : T) (k : Nat), k < j → t.ok A.ar → m_seen j [A.d, t.d, .int k] = some (pd (seenL A R t k))
  | 0, _, _, h, _ => absurd h (Nat.not_lt_zero _)
  | j + 1, t, 0, _, _ => by
    have hr' : m_reachable [A.d] = some (.tup (R.map D.int)) := hr
    simp [m_seen, runP, F_seen, hr', seenL, pd]
  | j + 1, t, k + 1, hk, ho => by
    have ih := fun u h => seen_m hA hR hr j u k (by omega) h
    have cg := fun u (h : T.ok A.ar u) => seen_good hR (k := k) h
    cases t with
    | a s =>
      have e := come_m hA (sets := []) ho.1 ho.2 (by simp) (by decide)
      simp at e
      simp [m_seen, runP, F_seen, T.d, lcGo, e, seenL]
    | b s x =>
      have e1 := ih x ho.2.2
      have e := come_m hA (sets := [seenL A R x k]) ho.1 ho.2.1 (by simpa using cg x ho.2.2) (Nat.le_succ 1)
      simp at e
      simp [m_seen, runP, F_seen, T.d, lcGo, e1, e, seenL]
    | c s x y =>
      have e1 := ih x ho.2.2.1
      have e2 := ih y ho.2.2.2
      have e := come_m hA (sets := [seenL A R x k, seenL A R y k]) ho.1 ho.2.1 (by simpa using ⟨cg x ho.2.2.1, cg y ho.2.2.2⟩) (Nat.le_refl 2)
      simp at e
      simp [m_seen, runP, F_seen, T.d, lcGo, e1, e2, e, seenL]
/-! ### _law_seen -/
def lsRow : SF Unit := fAsg (fBin dAdd (fNw 7) (fLc (sSeq (fNw 6)) (gN 9) fYes (fBin dAdd (fNw 8) (fTup (aCons (fN 9) aNil))) [9])) (gN 7)
def lsPart (rec : List D → Option D) : SF Unit := fSeq (fAsg (fCall 4 rec (aCons (fN 0) (aCons (fN 1) (aCons (fN 5) (aCons (fBin dSub (fNw 3) (fC (.int 1))) aNil))))) (gN 6))
  (fSeq (fAsg (fLst aNil) (gN 7)) (fSeq (fFor (sSeq (fN 4)) (gN 8) lsRow) (fAsg (fN 7) (gN 4))))
def lsAdd : SF Unit := fSeq (fAsg (fCall 3 m_L_next_state (aCons (fN 0) (aCons (fBin dItem (fNw 2) (fC (.int 0))) (aCons (fN 8) aNil)))) (gN 9)) (fIf (fT (fBin dNotIn (fNw 9) (fNw 10))) (fApp 10 (fN 9)) fNext)
theorem lsrow_go {near : List Int} (hl : near.length ≤ 4) {x0 x1 x2 x3 x4 x5 f9 f10 : SV} (h9 : f9.own = false) : ∀ (rs acc : List (List Int)) (w8 : SV), (∀ r ∈ rs, r.length ≤ 2) → acc.length + 4 * rs.length ≤ 1000 →
    ∃ w8', forGo (gN 8) lsRow (rs.map pd) [x0, x1, x2, x3, x4, x5, .im (pd near), .im (.lst (acc.map pd)), w8, f9, f10] () = .nx [x0, x1, x2, x3, x4, x5, .im (pd near), .im (.lst ((acc ++ rs.flatMap fun r => near.map fun q => r ++ [q]).map pd)), w8', f9, f10] ()
  | [], acc, w8, _, _ => ⟨w8, by simp [forGo]⟩
  | r :: rs, acc, w8, hr, hz => by
    have hr0 := hr r List.mem_cons_self
    simp at hz
    obtain ⟨w8', e⟩ := lsrow_go hl (x0 := x0) (x1 := x1) (x2 := x2) (x3 := x3) (x4 := x4) (x5 := x5) (f10 := f10) h9 rs (acc ++ near.map fun q => r ++ [q]) (.im (pd r)) (fun x hx => hr x (List.mem_cons_of_mem _ hx)) (by simp; omega)
    have el := lc_map (S := Unit) (s := ()) (ρ := [x0, x1, x2, x3, x4, x5, .im (.tup (near.map D.int)), .im (.lst (acc.map pd)), .im (pd r), .un, f10]) (gf := gN 9) (fe := fBin dAdd (fNw 8) (fTup (aCons (fN 9) aNil))) (enc := D.int) (g := fun q => pd (r ++ [q])) (xs := near) fun q _ => ⟨_, rfl, by simp [pd, show r.length ≤ 99999 by omega]⟩
    refine ⟨w8', (go_nx (ρ1 := [x0, x1, x2, x3, x4, x5, .im (pd near), .im (.lst (acc.map pd)), .im (pd r), f9, f10]) (ρ2 := [x0, x1, x2, x3, x4, x5, .im (pd near), .im (.lst ((acc ++ near.map fun q => r ++ [q]).map pd)), .im (pd r), f9, f10]) (s2 := ()) rfl ?_).trans (by rw [e]; simp [List.append_assoc])⟩
    simp [lsRow, pd, h9, show near.length ≤ 100000 by omega] 
    simp [pd] at el
    simp [el, show acc.length + near.length ≤ 100000 by omega, Function.comp_def, pd]
def rowsMore (rs : List (List Int)) (near : List Int) : List (List Int) := rs.flatMap fun r => near.map fun q => r ++ [q]
theorem lspart_go {rec : List D → Option D} {x0 x1 d5 : D} {x2 x6 x7 x8 f9 f10 : SV} {k : Nat} {near : List Int} {rs : List (List Int)} (hrec : rec [x0, x1, d5, .int k] = some (pd near)) (hl : near.length ≤ 4) (hr : ∀ r ∈ rs, r.length ≤ 2) (hz : rs.length ≤ 200) (h9 : f9.own = false) :
    ∃ x6' x7' x8', lsPart rec [.im x0, .im x1, x2, .im (.int (k + 1 : Nat)), .im (.lst (rs.map pd)), .im d5, x6, x7, x8, f9, f10] () = .nx [.im x0, .im x1, x2, .im (.int (k + 1 : Nat)), .im (.lst ((rowsMore rs near).map pd)), .im d5, x6', x7', x8', f9, f10] () := by
  obtain ⟨w8', e⟩ := lsrow_go hl (x0 := .im x0) (x1 := .im x1) (x2 := x2) (x3 := .im (.int (k + 1 : Nat))) (x4 := .im (.lst (rs.map pd))) (x5 := .im d5) (f10 := f10) h9 rs [] x8 hr (by simp; omega)
  refine ⟨.im (pd near), .im (.lst ((rowsMore rs near).map pd)), w8', ?_⟩
  refine (seq_nx (ρ' := [.im x0, .im x1, x2, .im (.int (k + 1 : Nat)), .im (.lst (rs.map pd)), .im d5, .im (pd near), x7, x8, f9, f10]) (s' := ()) (by simp [hrec])).trans ?_
  refine (seq_nx (ρ' := [.im x0, .im x1, x2, .im (.int (k + 1 : Nat)), .im (.lst (rs.map pd)), .im d5, .im (pd near), .im (.lst []), x8, f9, f10]) (s' := ()) (by simp)).trans ?_
  refine (seq_nx (s' := ()) ((for_go (ds := rs.map pd) (s' := ()) (by simp)).trans e)).trans ?_
  simp [rowsMore]
theorem lsadd_go {A : Au} (hA : A.ok) {x1 x3 x4 x5 x6 x7 : SV} {t : T} : ∀ (rs : List (List Int)) (ks : List Int) (w8 f9 : SV), Good A ks → (∀ r ∈ rs, RowOk A t.sym r) →
    ∃ w8' f9', forGo (gN 8) lsAdd (rs.map pd) [.im A.d, x1, .im t.d, x3, x4, x5, x6, x7, w8, f9, .ow (ks.map D.int)] () = .nx [.im A.d, x1, .im t.d, x3, x4, x5, x6, x7, w8', f9', .ow ((addRows A t.sym rs ks).map D.int)] ()
  | [], ks, w8, f9, _, _ => ⟨w8, f9, rfl⟩
  | r :: rs, ks, w8, f9, g, h => by
    have hr := h r List.mem_cons_self
    have hl := g.len hA
    obtain ⟨w8', f9', e⟩ := lsadd_go hA (x1 := x1) (x3 := x3) (x4 := x4) (x5 := x5) (x6 := x6) (x7 := x7) (t := t) rs (kput ks (nx A t.sym r)) (.im (pd r)) (.im (.int (nx A t.sym r))) (g.put hr.reach) fun x hx => h x (List.mem_cons_of_mem _ hx)
    refine ⟨w8', f9', (go_nx (ρ1 := [.im A.d, x1, .im t.d, x3, x4, x5, x6, x7, .im (pd r), f9, .ow (ks.map D.int)]) (ρ2 := [.im A.d, x1, .im t.d, x3, x4, x5, x6, x7, .im (pd r), .im (.int (nx A t.sym r)), .ow ((kput ks (nx A t.sym r)).map D.int)]) (s2 := ()) rfl ?_).trans (by rw [e]; rfl)⟩
    have e2 := hr.m hA
    have hd := t.d_eq
    by_cases hq : nx A t.sym r ∈ ks
    · simp [lsAdd, L_next_state_eq, hd, e2, hq, kput_mem hq]
    · simp [lsAdd, L_next_state_eq, hd, e2, hq, kput_new hq, show ks.length < 100000 by omega]
theorem L_seen_m {A : Au} (hA : A.ok) {R : List Int} (hR : IsR A R) : ∀ (j : Nat) (t : T) (k : Nat), k < j → t.ok A.ar → m_L_seen j [A.d, pd R, t.d, .int k] = some (pd (seenL A R t k))
  | 0, _, _, h, _ => absurd h (Nat.not_lt_zero _)
  | j + 1, t, 0, _, _ => by
    simp [m_L_seen, runP, F_L_seen, seenL]
  | j + 1, t, k + 1, hk, ho => by
    have ih := fun u h => L_seen_m hA hR j u k (by omega) h
    have cg := fun u (h : T.ok A.ar u) => seen_good hR (k := k) h
    have hoh := T.ok_head ho
    have key : ∃ x5 x6 x7 x8 f9 sets, f9 = SV.un ∧ sets.length = t.kids.length ∧ (∀ x ∈ sets, Good A x) ∧ comeL A t.sym sets = seenL A R t (k + 1) ∧ fFor (sSeq (fSl (fNw 2) (oSome (fC (.int 1))) oNo)) (gN 5) (lsPart (m_L_seen j)) [.im A.d, .im (pd R), .im t.d, .im (.int (k + 1 : Nat)), .im (.lst [.tup []]), .un, .un, .un, .un, .un, .un] () =
        .nx [.im A.d, .im (pd R), .im t.d, .im (.int (k + 1 : Nat)), .im (.lst ((rowsS sets).map pd)), x5, x6, x7, x8, f9, .un] () := by
      cases t with
      | a s => exact ⟨.un, .un, .un, .un, .un, [], rfl, rfl, by simp, rfl, (for_go (ds := []) (s' := ()) (by simp [T.d])).trans rfl⟩
      | b s x =>
        have gx := cg x ho.2.2
        obtain ⟨x6, x7, x8, e1⟩ := lspart_go (x2 := .im (T.b s x).d) (x6 := .un) (x7 := .un) (x8 := .un) (f9 := .un) (f10 := .un) (rs := [[]]) (ih x ho.2.2) (gx.len hA) (by simp) (by simp) rfl
        refine ⟨.im x.d, x6, x7, x8, .un, [seenL A R x k], rfl, rfl, by simpa using gx, rfl, (for_go (ds := [x.d]) (s' := ()) (by simp [T.d])).trans ((go_nx rfl e1).trans ?_)⟩
        simp [rowsMore, rowsS, forGo]
      | c s x y =>
        have gx := cg x ho.2.2.1
        have gy := cg y ho.2.2.2
        have lx := gx.len hA
        obtain ⟨x6, x7, x8, e1⟩ := lspart_go (x2 := .im (T.c s x y).d) (x6 := .un) (x7 := .un) (x8 := .un) (f9 := .un) (f10 := .un) (rs := [[]]) (ih x ho.2.2.1) lx (by simp) (by simp) rfl
        obtain ⟨y6, y7, y8, e2⟩ := lspart_go (x2 := .im (T.c s x y).d) (x6 := x6) (x7 := x7) (x8 := x8) (f9 := .un) (f10 := .un) (rs := rowsMore [[]] (seenL A R x k)) (ih y ho.2.2.2) (gy.len hA) (by simp [rowsMore]) (by simp [rowsMore]; omega) rfl
        refine ⟨.im y.d, y6, y7, y8, .un, [seenL A R x k, seenL A R y k], rfl, rfl, by simpa using ⟨gx, gy⟩, rfl, (for_go (ds := [x.d, y.d]) (s' := ()) (by simp [T.d])).trans ((go_nx rfl e1).trans ((go_nx rfl e2).trans ?_))⟩
        simp [rowsMore, rowsS, forGo, List.flatMap_map]
    obtain ⟨x5, x6, x7, x8, f9, sets, hf9, hl, hg, hc, e⟩ := key
    have ha : A.ar[t.sym.toNat]? = some (sets.length : Int) := by rw [hl]; exact hoh.2.1
    have hl2 : sets.length ≤ 2 := by rw [hl]; exact t.kids_len
    obtain ⟨w8', f9', e2⟩ := lsadd_go hA (x1 := .im (pd R)) (x3 := .im (.int (k + 1 : Nat))) (x4 := .im (.lst ((rowsS sets).map pd))) (x5 := x5) (x6 := x6) (x7 := x7) (t := t) (rowsS sets) [] x8 f9 .nil (rowsS_ok hoh.1 ha hg hl2)
    show runP 11 (F_L_seen (m_L_seen j)) _ = _
    refine run_rt ?_
    refine (seq_nx (ρ' := [.im A.d, .im (pd R), .im t.d, .im (.int (k + 1 : Nat)), .un, .un, .un, .un, .un, .un, .un]) (s' := ()) (by simp)).trans ?_
    refine (seq_nx (ρ' := [.im A.d, .im (pd R), .im t.d, .im (.int (k + 1 : Nat)), .im (.lst [.tup []]), .un, .un, .un, .un, .un, .un]) (s' := ()) (by simp)).trans ?_
    refine (seq_nx (s' := ()) e).trans ?_
    refine (seq_nx (ρ' := [.im A.d, .im (pd R), .im t.d, .im (.int (k + 1 : Nat)), .im (.lst ((rowsS sets).map pd)), x5, x6, x7, x8, f9, .ow []]) (s' := ()) (by simp)).trans ?_
    refine (seq_nx (s' := ()) ((for_go (ds := (rowsS sets).map pd) (s' := ()) (by simp)).trans e2)).trans ?_
    rw [← hc]
    simp [comeL, pd]
end K7
end
section
set_option maxRecDepth 100000
/-! K76, plain law, part g: what is handed down; the letting in, both ways. -/
namespace K7
open PySem L2
@[simp] theorem fLRg_ {S : Type} {ρ : List SV} {s : S} {fa : EF S} : fLRg fa ρ s = (fa ρ s).bind fun p => (match p.1 with | .int j => if 0 ≤ j ∧ j ≤ 100000 then some (.lst (rgD 0 j.toNat), p.2) else none | _ => none) := rfl
@[simp] theorem fRev_ {S : Type} {ρ : List SV} {s : S} {fa : EF S} : fRev fa ρ s = (fa ρ s).bind fun p => (match p.1 with | .lst xs => some (.lst xs.reverse, p.2) | _ => none) := rfl
theorem any_map {α : Type} {p : α → Bool} {ys : List α} : dAny (.lst (ys.map fun o => D.bl (p o))) = some (.bl (ys.any p)) := by
  have := any_l (bs := ys.map p)
  rw [List.map_map] at this
  rw [show (ys.map fun o => D.bl (p o)) = ys.map (D.bl ∘ p) from rfl, this]
  simp [List.any_map, Function.comp_def]
theorem all_map {α : Type} {p : α → Bool} {ys : List α} : dAll (.lst (ys.map fun o => D.bl (p o))) = some (.bl (ys.all p)) := by
  have := all_l (bs := ys.map p)
  rw [List.map_map] at this
  rw [show (ys.map fun o => D.bl (p o)) = ys.map (D.bl ∘ p) from rfl, this]
  simp [List.all_map, Function.comp_def]
def goodB (A : Au) (q : Int) : Bool := A.good.getD q.toNat false
theorem good_at {A : Au} {q : Int} (h : InR A.n q) : atI (A.good.map D.bl) q = some (.bl (goodB A q)) := by
  have := (getD_some (xs := A.good) (i := q.toNat) (d := false) h.lt).1
  rw [atI_nn h.1, List.getElem?_map, this]
  rfl
def hand1 (A : Au) (R : List Int) (s : Int) (g : List Int) : List Int := R.filter fun q => decide (nx A s [q] ∈ g)
def hand2a (A : Au) (R : List Int) (s : Int) (g y : List Int) : List Int := R.filter fun q => y.any fun o => decide (nx A s [q, o] ∈ g)
def hand2b (A : Au) (R : List Int) (s : Int) (g x : List Int) : List Int := R.filter fun q => x.any fun o => decide (nx A s [o, q] ∈ g)
section
variable {A : Au} (hA : A.ok) {R : List Int} (hR : IsR A R) (hr : m_reachable [A.d] = some (pd R))
include hA hR hr
theorem good_states_m : m_good_states [A.d] = some (pd (R.filter (goodB A))) := by
  have hl := hR.good.len hA
  have el := lc_filter (S := Unit) (s := ()) (ρ := [.im A.d, .un]) (gf := gN 1) (ft := fTru (fBin dItem (fBin dItem (fNw 0) (fC (.int 1))) (fNw 1))) (fe := fN 1) (enc := D.int) (g := D.int) (p := goodB A) (xs := R) fun q hq => ⟨_, rfl, by
    have := good_at ((hR.good.re q hq).inr hA)
    simp [Au.d, this], by simp⟩
  have hr' : m_reachable [A.d] = some (.tup (R.map D.int)) := hr
  simp [m_good_states, runP, F_good_states, hr', show R.length ≤ 100000 by omega, el, pd]
theorem handed1_m {s : Int} (hs : 0 ≤ s) (ha : A.ar[s.toNat]? = some 1) {g : List Int} {x : D} : m_handed [A.d, .int s, pd g, .lst [x]] = some (.lst [pd (hand1 A R s g)]) := by
  have hl := hR.good.len hA
  have el := fun x5 x6 x7 x8 x9 (h5 : x5 = SV.un) => lc_filter (S := Unit) (s := ()) (ρ := [.im A.d, .im (.int s), .im (.tup (g.map D.int)), .im (.lst [x]), .im (.tup (R.map D.int)), x5, x6, x7, x8, x9]) (gf := gN 5) (ft := fT (fBin dIn (fCall 3 m_next_state (aCons (fN 0) (aCons (fN 1) (aCons (fTup (aCons (fN 5) aNil)) aNil)))) (fNw 2))) (fe := fN 5) (enc := D.int) (g := D.int) (p := fun q => decide (nx A s [q] ∈ g)) (xs := R) fun q hq => ⟨_, rfl, by
    have e := (nx_ok hA hs (row := [q]) ha (by simpa using (hR.good.re q hq).inr hA)).2 (.tup [.int q]) rfl
    simp [e], by simp⟩
  have e := el .un .un .un .un .un rfl
  have hr' : m_reachable [A.d] = some (.tup (R.map D.int)) := hr
  simp [m_handed, runP, F_handed, hr', pd, show R.length ≤ 100000 by omega, e, hand1]
def hb : SF Unit := (fSeq (fIf (fTru (fUn dAny (fLc (sSeq (fBin dItem (fNw 3) (fC (.int 1)))) (gN 9) fYes (fBin dIn (fCall 3 m_next_state (aCons (fN 0) (aCons (fN 1) (aCons (fTup (aCons (fN 8) (aCons (fN 9) aNil))) aNil)))) (fNw 2)) [9]))) (fApp 6 (fN 8)) fNext)
  (fIf (fTru (fUn dAny (fLc (sSeq (fBin dItem (fNw 3) (fC (.int 0)))) (gN 9) fYes (fBin dIn (fCall 3 m_next_state (aCons (fN 0) (aCons (fN 1) (aCons (fTup (aCons (fN 9) (aCons (fN 8) aNil))) aNil)))) (fNw 2)) [9]))) (fApp 7 (fN 8)) fNext))
omit hr hR in
theorem hb_go {s : Int} (hs : 0 ≤ s) (ha : A.ar[s.toNat]? = some 2) {g x y : List Int} (gx : Good A x) (gy : Good A y) {x4 x5 x9 : SV} (h9 : x9.own = false) : ∀ (qs f1 f2 : List Int) (x8 : SV), (∀ q ∈ qs, Reach A q) → f1.length + qs.length ≤ 100 → f2.length + qs.length ≤ 100 →
    ∃ x8', forGo (gN 8) hb (qs.map D.int) [.im A.d, .im (.int s), .im (pd g), .im (.lst [pd x, pd y]), x4, x5, .ow (f1.map D.int), .ow (f2.map D.int), x8, x9] () =
      .nx [.im A.d, .im (.int s), .im (pd g), .im (.lst [pd x, pd y]), x4, x5, .ow ((f1 ++ hand2a A qs s g y).map D.int), .ow ((f2 ++ hand2b A qs s g x).map D.int), x8', x9] ()
  | [], f1, f2, x8, _, _, _ => ⟨x8, by simp [forGo, hand2a, hand2b]⟩
  | q :: qs, f1, f2, x8, h, z1, z2 => by
    have hq := h q List.mem_cons_self
    simp at z1 z2
    have lx := gx.len hA
    have ly := gy.len hA
    have nxa : ∀ o ∈ y, m_next_state [A.d, .int s, .tup [.int q, .int o]] = some (.int (nx A s [q, o])) := fun o ho => (nx_ok hA hs (row := [q, o]) ha (by simpa using ⟨hq.inr hA, (gy.re o ho).inr hA⟩)).2 _ rfl
    have nxb : ∀ o ∈ x, m_next_state [A.d, .int s, .tup [.int o, .int q]] = some (.int (nx A s [o, q])) := fun o ho => (nx_ok hA hs (row := [o, q]) ha (by simpa using ⟨(gx.re o ho).inr hA, hq.inr hA⟩)).2 _ rfl
    have ea := fun f1 f2 => lc_map (S := Unit) (s := ()) (ρ := [.im A.d, .im (.int s), .im (.tup (g.map D.int)), .im (.lst [.tup (x.map D.int), .tup (y.map D.int)]), x4, x5, f1, f2, .im (.int q), .un]) (gf := gN 9) (fe := fBin dIn (fCall 3 m_next_state (aCons (fN 0) (aCons (fN 1) (aCons (fTup (aCons (fN 8) (aCons (fN 9) aNil))) aNil)))) (fNw 2)) (enc := D.int) (g := fun o => .bl (decide (nx A s [q, o] ∈ g))) (xs := y) fun o ho => ⟨_, rfl, by simp [nxa o ho]⟩
    have eb := fun f1 f2 => lc_map (S := Unit) (s := ()) (ρ := [.im A.d, .im (.int s), .im (.tup (g.map D.int)), .im (.lst [.tup (x.map D.int), .tup (y.map D.int)]), x4, x5, f1, f2, .im (.int q), .un]) (gf := gN 9) (fe := fBin dIn (fCall 3 m_next_state (aCons (fN 0) (aCons (fN 1) (aCons (fTup (aCons (fN 9) (aCons (fN 8) aNil))) aNil)))) (fNw 2)) (enc := D.int) (g := fun o => .bl (decide (nx A s [o, q] ∈ g))) (xs := x) fun o ho => ⟨_, rfl, by simp [nxb o ho]⟩
    have step : hb [.im A.d, .im (.int s), .im (pd g), .im (.lst [pd x, pd y]), x4, x5, .ow (f1.map D.int), .ow (f2.map D.int), .im (.int q), x9] () =
        .nx [.im A.d, .im (.int s), .im (pd g), .im (.lst [pd x, pd y]), x4, x5, .ow ((f1 ++ hand2a A [q] s g y).map D.int), .ow ((f2 ++ hand2b A [q] s g x).map D.int), .im (.int q), x9] () := by
      cases ha' : y.any (fun o => decide (nx A s [q, o] ∈ g)) <;> cases hb' : x.any (fun o => decide (nx A s [o, q] ∈ g)) <;>
        simp [hb, pd, h9, ea, eb, any_map, ha', hb', hand2a, hand2b, show x.length ≤ 100000 by omega, show y.length ≤ 100000 by omega, show f1.length < 100000 by omega, show f2.length < 100000 by omega, -List.any_eq_false, -List.any_eq_true]
    have c1 : hand2a A (q :: qs) s g y = hand2a A [q] s g y ++ hand2a A qs s g y := by
      simp only [hand2a, List.filter_cons, List.filter_nil]
      split <;> rfl
    have c2 : hand2b A (q :: qs) s g x = hand2b A [q] s g x ++ hand2b A qs s g x := by
      simp only [hand2b, List.filter_cons, List.filter_nil]
      split <;> rfl
    have l1 : (hand2a A [q] s g y).length ≤ 1 := by unfold hand2a; exact List.length_filter_le _ _
    have l2 : (hand2b A [q] s g x).length ≤ 1 := by unfold hand2b; exact List.length_filter_le _ _
    obtain ⟨x8', e⟩ := hb_go hs ha (g := g) gx gy (x4 := x4) (x5 := x5) h9 qs (f1 ++ hand2a A [q] s g y) (f2 ++ hand2b A [q] s g x) (.im (.int q)) (fun z hz => h z (List.mem_cons_of_mem _ hz)) (by simp; omega) (by simp; omega)
    exact ⟨x8', (go_nx rfl step).trans (by rw [e, c1, c2, List.append_assoc, List.append_assoc])⟩
theorem handed2_m {s : Int} (hs : 0 ≤ s) (ha : A.ar[s.toNat]? = some 2) {g x y : List Int} (gx : Good A x) (gy : Good A y) : m_handed [A.d, .int s, pd g, .lst [pd x, pd y]] = some (.lst [pd (hand2a A R s g y), pd (hand2b A R s g x)]) := by
  have hl := hR.good.len hA
  obtain ⟨x8', e⟩ := hb_go hA hs ha (g := g) gx gy (x4 := .im (pd R)) (x5 := .un) (x9 := .un) rfl R [] [] .un hR.good.re (by simp; omega) (by simp; omega)
  refine run_rt ?_
  refine (seq_nx (ρ' := [.im A.d, .im (.int s), .im (pd g), .im (.lst [pd x, pd y]), .im (pd R), .un, .un, .un, .un, .un]) (s' := ()) (by simp [hr])).trans ?_
  refine (seq_nx (ρ' := [.im A.d, .im (.int s), .im (pd g), .im (.lst [pd x, pd y]), .im (pd R), .un, .un, .un, .un, .un]) (s' := ()) (by simp)).trans ?_
  refine (seq_nx (ρ' := [.im A.d, .im (.int s), .im (pd g), .im (.lst [pd x, pd y]), .im (pd R), .un, .ow [], .un, .un, .un]) (s' := ()) (by simp)).trans ?_
  refine (seq_nx (ρ' := [.im A.d, .im (.int s), .im (pd g), .im (.lst [pd x, pd y]), .im (pd R), .un, .ow [], .ow [], .un, .un]) (s' := ()) (by simp)).trans ?_
  refine (seq_nx (s' := ()) ((for_go (ds := R.map D.int) (s' := ()) (by simp [pd])).trans e)).trans ?_
  simp [pd]
/-! ### _law_handed -/
def lhOther : SF Unit := (fSeq (fAsg (fBin dItem (fLst (aCons (fTup (aCons (fN 7) (aCons (fN 9) aNil))) (aCons (fTup (aCons (fN 9) (aCons (fN 7) aNil))) aNil))) (fNw 5)) (gN 10))
  (fAsg (fOrV (fN 8) (fBin dIn (fCall 3 m_L_next_state (aCons (fN 0) (aCons (fBin dItem (fNw 3) (fC (.int 0))) (aCons (fN 10) aNil)))) (fNw 4))) (gN 8)))
def lhB : SF Unit := (fSeq (fAsg (fC (.bl false)) (gN 8))
  (fSeq (fIf (fT (fBin dEq (fUn dLen (fNw 3)) (fC (.int 2)))) (fAsg (fBin dIn (fCall 3 m_L_next_state (aCons (fN 0) (aCons (fBin dItem (fNw 3) (fC (.int 0))) (aCons (fTup (aCons (fN 7) aNil)) aNil)))) (fNw 4)) (gN 8)) (fFor (sSeq (fCall 4 (m_L_seen 20) (aCons (fN 0) (aCons (fN 1) (aCons (fBin dItem (fNw 3) (fBin dSub (fC (.int 2)) (fNw 5))) (aCons (fBin dSub (fNw 2) (fC (.int 1))) aNil)))))) (gN 9) lhOther))
  (fIf (fTru (fNw 8)) (fApp 6 (fN 7)) fNext)))
omit hA hR hr in
/-- the loop over states: b tells which -/
theorem lh_all {ρ : SV → SV → SV → SV → SV → List SV} {b : Int → Bool} (hρ : ∀ f6 x7 x8 x9 x10 d, gN 7 d (ρ f6 x7 x8 x9 x10) = some (ρ f6 (.im d) x8 x9 x10))
    (step : ∀ (f : List Int) (q : Int) (x8 x9 x10 : SV), f.length < 100 → Reach A q → ∃ x8' x9' x10', lhB (ρ (.ow (f.map D.int)) (.im (.int q)) x8 x9 x10) () = .nx (ρ (.ow ((if b q = true then f ++ [q] else f).map D.int)) (.im (.int q)) x8' x9' x10') ()) :
    ∀ (qs f : List Int) (x7 x8 x9 x10 : SV), (∀ q ∈ qs, Reach A q) → f.length + qs.length ≤ 100 → ∃ x7' x8' x9' x10', forGo (gN 7) lhB (qs.map D.int) (ρ (.ow (f.map D.int)) x7 x8 x9 x10) () = .nx (ρ (.ow ((f ++ qs.filter b).map D.int)) x7' x8' x9' x10') ()
  | [], f, x7, x8, x9, x10, _, _ => ⟨x7, x8, x9, x10, by simp [forGo]⟩
  | q :: qs, f, x7, x8, x9, x10, h, hz => by
    simp at hz
    obtain ⟨x8', x9', x10', e1⟩ := step f q x8 x9 x10 (by omega) (h q List.mem_cons_self)
    obtain ⟨y7, y8, y9, y10, e2⟩ := lh_all hρ step qs (if b q = true then f ++ [q] else f) (.im (.int q)) x8' x9' x10' (fun z hz => h z (List.mem_cons_of_mem _ hz)) (by split <;> (try rw [List.length_append, List.length_singleton]) <;> omega)
    refine ⟨y7, y8, y9, y10, (go_nx (hρ _ _ _ _ _ _) e1).trans (e2.trans ?_)⟩
    cases hb : b q <;> simp [hb]
theorem L_handed_m {k : Nat} (hk : k < 20) {t : T} (ho : t.ok A.ar) {g : List Int} {a : Int} :
    (∀ s x, t = .b s x → m_L_handed [A.d, pd R, .int (k + 1 : Nat), t.d, pd g, .int a] = some (pd (hand1 A R s g))) ∧
    (∀ s x y, t = .c s x y → a = 0 → m_L_handed [A.d, pd R, .int (k + 1 : Nat), t.d, pd g, .int a] = some (pd (hand2a A R s g (seenL A R y k)))) ∧
    (∀ s x y, t = .c s x y → a = 1 → m_L_handed [A.d, pd R, .int (k + 1 : Nat), t.d, pd g, .int a] = some (pd (hand2b A R s g (seenL A R x k)))) := by
  have hl := hR.good.len hA
  have fin : ∀ b : Int → Bool, (∀ (f : List Int) (q : Int) (x8 x9 x10 : SV), f.length < 100 → Reach A q → ∃ x8' x9' x10', lhB [.im A.d, .im (pd R), .im (.int (k + 1 : Nat)), .im t.d, .im (pd g), .im (.int a), .ow (f.map D.int), .im (.int q), x8, x9, x10] () =
      .nx [.im A.d, .im (pd R), .im (.int (k + 1 : Nat)), .im t.d, .im (pd g), .im (.int a), .ow ((if b q = true then f ++ [q] else f).map D.int), .im (.int q), x8', x9', x10'] ()) →
      m_L_handed [A.d, pd R, .int (k + 1 : Nat), t.d, pd g, .int a] = some (pd (R.filter b)) := by
    intro b step
    obtain ⟨x7', x8', x9', x10', e⟩ := lh_all (A := A) (b := b) (ρ := fun f6 x7 x8 x9 x10 => [.im A.d, .im (pd R), .im (.int (k + 1 : Nat)), .im t.d, .im (pd g), .im (.int a), f6, x7, x8, x9, x10]) (fun _ _ _ _ _ _ => rfl) step R [] .un .un .un .un hR.good.re (by rw [List.length_nil]; omega)
    refine run_rt ?_
    refine (seq_nx (ρ' := [.im A.d, .im (pd R), .im (.int (k + 1 : Nat)), .im t.d, .im (pd g), .im (.int a), .ow [], .un, .un, .un, .un]) (s' := ()) (by simp)).trans ?_
    refine (seq_nx (s' := ()) ((for_go (ds := R.map D.int) (s' := ()) (by simp [pd])).trans e)).trans ?_
    simp [pd]
  refine ⟨?_, ?_, ?_⟩
  · rintro s x rfl
    refine fin _ fun f q x8 x9 x10 hf hq => ?_
    have e := (nx_ok hA ho.1 (row := [q]) ho.2.1 (by simpa using hq.inr hA)).2 (.tup [.int q]) rfl
    refine ⟨.im (.bl (decide (nx A s [q] ∈ g))), x9, x10, ?_⟩
    by_cases hd : nx A s [q] ∈ g <;> simp [lhB, T.d, L_next_state_eq, e, pd, hd, show f.length < 100000 by omega]
  · rintro s x y rfl rfl
    refine fin _ fun f q x8 x9 x10 hf hq => ?_
    have gy := seen_good hR (t := y) (k := k) ho.2.2.2
    have key : ∀ (os : List Int) (b : Bool) (x9 x10 : SV), (∀ o ∈ os, Reach A o) → ∃ x9' x10', forGo (gN 9) lhOther (os.map D.int) [.im A.d, .im (pd R), .im (.int (k + 1 : Nat)), .im (T.c s x y).d, .im (pd g), .im (.int 0), .ow (f.map D.int), .im (.int q), .im (.bl b), x9, x10] () =
        .nx [.im A.d, .im (pd R), .im (.int (k + 1 : Nat)), .im (T.c s x y).d, .im (pd g), .im (.int 0), .ow (f.map D.int), .im (.int q), .im (.bl (b || os.any fun o => decide (nx A s [q, o] ∈ g))), x9', x10'] () := by
      intro os
      induction os with
      | nil => exact fun b x9 x10 _ => ⟨x9, x10, by simp [forGo]⟩
      | cons o os ih =>
        intro b x9 x10 h
        obtain ⟨x9', x10', e2⟩ := ih (b || decide (nx A s [q, o] ∈ g)) (.im (.int o)) (.im (.tup [.int q, .int o])) fun z hz => h z (List.mem_cons_of_mem _ hz)
        have e := (nx_ok hA ho.1 (row := [q, o]) ho.2.1 (by simpa using ⟨hq.inr hA, (h o List.mem_cons_self).inr hA⟩)).2 (.tup [.int q, .int o]) rfl
        refine ⟨x9', x10', (go_nx rfl (ρ2 := [.im A.d, .im (pd R), .im (.int (k + 1 : Nat)), .im (T.c s x y).d, .im (pd g), .im (.int 0), .ow (f.map D.int), .im (.int q), .im (.bl (b || decide (nx A s [q, o] ∈ g))), .im (.int o), .im (.tup [.int q, .int o])]) (s2 := ()) ?_).trans (by rw [e2, List.any_cons, Bool.or_assoc])⟩
        cases b <;> simp [lhOther, T.d, L_next_state_eq, e, pd]
    obtain ⟨x9', x10', e2⟩ := key (seenL A R y k) false x9 x10 gy.re
    have e1 : m_L_seen 20 [A.d, .tup (R.map D.int), y.d, .int k] = some (.tup ((seenL A R y k).map D.int)) := L_seen_m hA hR 20 y k hk ho.2.2.2
    refine ⟨.im (.bl ((seenL A R y k).any fun o => decide (nx A s [q, o] ∈ g))), x9', x10', ?_⟩
    refine (seq_nx (ρ' := [.im A.d, .im (pd R), .im (.int (k + 1 : Nat)), .im (T.c s x y).d, .im (pd g), .im (.int 0), .ow (f.map D.int), .im (.int q), .im (.bl false), x9, x10]) (s' := ()) (by simp)).trans ?_
    refine (seq_nx (s' := ()) ((if_f (s' := ()) (by simp [T.d])).trans ((for_go (ds := (seenL A R y k).map D.int) (s' := ()) (by simp [T.d, pd, e1])).trans e2))).trans ?_
    rw [Bool.false_or]
    cases hd : (seenL A R y k).any (fun o => decide (nx A s [q, o] ∈ g)) <;> simp [hd, show f.length < 100000 by omega, -List.any_eq_false, -List.any_eq_true]
  · rintro s x y rfl rfl
    refine fin _ fun f q x8 x9 x10 hf hq => ?_
    have gx := seen_good hR (t := x) (k := k) ho.2.2.1
    have key : ∀ (os : List Int) (b : Bool) (x9 x10 : SV), (∀ o ∈ os, Reach A o) → ∃ x9' x10', forGo (gN 9) lhOther (os.map D.int) [.im A.d, .im (pd R), .im (.int (k + 1 : Nat)), .im (T.c s x y).d, .im (pd g), .im (.int 1), .ow (f.map D.int), .im (.int q), .im (.bl b), x9, x10] () =
        .nx [.im A.d, .im (pd R), .im (.int (k + 1 : Nat)), .im (T.c s x y).d, .im (pd g), .im (.int 1), .ow (f.map D.int), .im (.int q), .im (.bl (b || os.any fun o => decide (nx A s [o, q] ∈ g))), x9', x10'] () := by
      intro os
      induction os with
      | nil => exact fun b x9 x10 _ => ⟨x9, x10, by simp [forGo]⟩
      | cons o os ih =>
        intro b x9 x10 h
        obtain ⟨x9', x10', e2⟩ := ih (b || decide (nx A s [o, q] ∈ g)) (.im (.int o)) (.im (.tup [.int o, .int q])) fun z hz => h z (List.mem_cons_of_mem _ hz)
        have e := (nx_ok hA ho.1 (row := [o, q]) ho.2.1 (by simpa using ⟨(h o List.mem_cons_self).inr hA, hq.inr hA⟩)).2 (.tup [.int o, .int q]) rfl
        refine ⟨x9', x10', (go_nx rfl (ρ2 := [.im A.d, .im (pd R), .im (.int (k + 1 : Nat)), .im (T.c s x y).d, .im (pd g), .im (.int 1), .ow (f.map D.int), .im (.int q), .im (.bl (b || decide (nx A s [o, q] ∈ g))), .im (.int o), .im (.tup [.int o, .int q])]) (s2 := ()) ?_).trans (by rw [e2, List.any_cons, Bool.or_assoc])⟩
        cases b <;> simp [lhOther, T.d, L_next_state_eq, e, pd]
    obtain ⟨x9', x10', e2⟩ := key (seenL A R x k) false x9 x10 gx.re
    have e1 : m_L_seen 20 [A.d, .tup (R.map D.int), x.d, .int k] = some (.tup ((seenL A R x k).map D.int)) := L_seen_m hA hR 20 x k hk ho.2.2.1
    refine ⟨.im (.bl ((seenL A R x k).any fun o => decide (nx A s [o, q] ∈ g))), x9', x10', ?_⟩
    refine (seq_nx (ρ' := [.im A.d, .im (pd R), .im (.int (k + 1 : Nat)), .im (T.c s x y).d, .im (pd g), .im (.int 1), .ow (f.map D.int), .im (.int q), .im (.bl false), x9, x10]) (s' := ()) (by simp)).trans ?_
    refine (seq_nx (s' := ()) ((if_f (s' := ()) (by simp [T.d])).trans ((for_go (ds := (seenL A R x k).map D.int) (s' := ()) (by simp [T.d, pd, e1])).trans e2))).trans ?_
    rw [Bool.false_or]
    cases hd : (seenL A R x k).any (fun o => decide (nx A s [o, q] ∈ g)) <;> simp [hd, show f.length < 100000 by omega, -List.any_eq_false, -List.any_eq_true]
end
end K7
end
section
set_option maxRecDepth 100000
/-! K76, plain law, part h: the letting in, both ways. -/
namespace K7
open PySem L2
/-- an entry: a place, the part, the set handed down -/
abbrev Ent := List Int × T × List Int
def okB (A : Au) (R : List Int) (k : Nat) (t : T) (g : List Int) : Bool := (seenL A R t (k + 1)).any fun q => decide (q ∈ g)
def pre (a : Int) (e : Ent) : Ent := (a :: e.1, e.2)
def vis (A : Au) (R : List Int) (k : Nat) : T → List Int → List Ent
  | .a s, g => [([], .a s, g)]
  | .b s x, g => ([], .b s x, g) :: if okB A R k (.b s x) g = true then (vis A R k x (hand1 A R s g)).map (pre 0) else []
  | .c s x y, g => ([], .c s x y, g) :: if okB A R k (.c s x y) g = true then (vis A R k x (hand2a A R s g (seenL A R y k))).map (pre 0) ++ (vis A R k y (hand2b A R s g (seenL A R x k))).map (pre 1) else []
theorem vis_len {A : Au} {R : List Int} {k : Nat} : ∀ (t : T) (g : List Int), (vis A R k t g).length ≤ t.size
  | .a s, g => by simp [vis, T.size]
  | .b s x, g => by
    have := vis_len (A := A) (R := R) (k := k) x (hand1 A R s g)
    unfold vis
    split <;> simp [T.size] <;> omega
  | .c s x y, g => by
    have := vis_len (A := A) (R := R) (k := k) x (hand2a A R s g (seenL A R y k))
    have := vis_len (A := A) (R := R) (k := k) y (hand2b A R s g (seenL A R x k))
    unfold vis
    split <;> simp [T.size] <;> omega
theorem vis_sub {A : Au} {R : List Int} {k : Nat} : ∀ (t : T) (g : List Int), ∀ e ∈ vis A R k t g, Pl e.1 ∧ e.1.length < t.size ∧ t.sub e.1 = some e.2.1
  | .a s, g, e, h => by
    simp [vis] at h
    subst h
    exact ⟨fun _ z => (nomatch z), T.size_pos _, T.sub_nil _⟩
  | .b s x, g, e, h => by
    unfold vis at h
    rcases List.mem_cons.mp h with rfl | h
    · exact ⟨fun _ z => (nomatch z), T.size_pos _, T.sub_nil _⟩
    · split at h
      · obtain ⟨e', he, rfl⟩ := List.mem_map.mp h
        obtain ⟨h1, h2, h3⟩ := vis_sub x _ e' he
        refine ⟨fun z hz => ?_, by simp [pre, T.size]; omega, by simpa [pre, T.sub] using h3⟩
        rcases List.mem_cons.mp hz with rfl | hz
        · exact .inl rfl
        · exact h1 z hz
      · cases h
  | .c s x y, g, e, h => by
    unfold vis at h
    rcases List.mem_cons.mp h with rfl | h
    · exact ⟨fun _ z => (nomatch z), T.size_pos _, T.sub_nil _⟩
    · split at h
      · rcases List.mem_append.mp h with h | h
        · obtain ⟨e', he, rfl⟩ := List.mem_map.mp h
          obtain ⟨h1, h2, h3⟩ := vis_sub x _ e' he
          refine ⟨fun z hz => ?_, by simp [pre, T.size]; omega, by simpa [pre, T.sub] using h3⟩
          rcases List.mem_cons.mp hz with rfl | hz
          · exact .inl rfl
          · exact h1 z hz
        · obtain ⟨e', he, rfl⟩ := List.mem_map.mp h
          obtain ⟨h1, h2, h3⟩ := vis_sub y _ e' he
          refine ⟨fun z hz => ?_, by simp [pre, T.size]; omega, by simpa [pre, T.sub] using h3⟩
          rcases List.mem_cons.mp hz with rfl | hz
          · exact .inr rfl
          · exact h1 z hz
      · cases h
section
variable {A : Au} (hA : A.ok) {R : List Int} (hR : IsR A R) (hr : m_reachable [A.d] = some (pd R)) {k : Nat} (hk : k < 19)
include hA hR hr hk
theorem fails_m {t : T} (ho : t.ok A.ar) {g : List Int} : m_fails [A.d, .int (k + 1 : Nat), t.d, pd g] = some (.bl (!okB A R k t g)) := by
  have e1 : m_seen 20 [A.d, t.d, .int (k + 1 : Nat)] = some (.tup ((seenL A R t (k + 1)).map D.int)) := seen_m hA hR hr 20 t (k + 1) (by omega) ho
  have hl := (seen_good hR (t := t) (k := k + 1) ho).len hA
  have el := lc_map (S := Unit) (s := ()) (ρ := [.im A.d, .im (.int (k + 1 : Nat)), .im t.d, .im (.tup (g.map D.int)), .un]) (gf := gN 4) (fe := fBin dIn (fNw 4) (fNw 3)) (enc := D.int) (g := fun q => .bl (decide (q ∈ g))) (xs := seenL A R t (k + 1)) fun q _ => ⟨_, rfl, by simp⟩
  simp at e1 el
  simp [m_fails, runP, F_fails, e1, pd, show (seenL A R t (k + 1)).length ≤ 100000 by omega, el, any_map, okB]
/-! ### along -/
def enc3 (e : Ent) : D := .tup [pd e.1, e.2.1.d, pd e.2.2]
def wSz (ws : List Ent) : Nat := (ws.map fun w => w.2.1.size).sum
/-- what a waiting entry comes to -/
def visW (A : Au) (R : List Int) (k : Nat) (w : Ent) : List Ent := (vis A R k w.2.1 w.2.2).map fun e => (w.1 ++ e.1, e.2)
def wkids (A : Au) (R : List Int) (k : Nat) (w : Ent) : List Ent := match w.2.1 with
  | .a _ => []
  | .b s x => if okB A R k w.2.1 w.2.2 = true then [(w.1 ++ [0], x, hand1 A R s w.2.2)] else []
  | .c s x y => if okB A R k w.2.1 w.2.2 = true then [(w.1 ++ [1], y, hand2b A R s w.2.2 (seenL A R x k)), (w.1 ++ [0], x, hand2a A R s w.2.2 (seenL A R y k))] else []
omit hA hR hr hk in
theorem visW_eq (w : Ent) : visW A R k w = w :: (wkids A R k w).reverse.flatMap (visW A R k) := by
  obtain ⟨p, t, g⟩ := w
  cases t with
  | a s => simp [visW, vis, wkids]
  | b s x =>
    have e : vis A R k (.b s x) g = ([], .b s x, g) :: if okB A R k (.b s x) g = true then (vis A R k x (hand1 A R s g)).map (pre 0) else [] := rfl
    simp only [visW, wkids, e]
    split <;> simp [visW, pre, Function.comp_def]
  | c s x y =>
    have e : vis A R k (.c s x y) g = ([], .c s x y, g) :: if okB A R k (.c s x y) g = true then (vis A R k x (hand2a A R s g (seenL A R y k))).map (pre 0) ++ (vis A R k y (hand2b A R s g (seenL A R x k))).map (pre 1) else [] := rfl
    simp only [visW, wkids, e]
    split <;> simp [visW, pre, Function.comp_def]
def alB : SF Unit := (fSeq (fPop 4 (gT 3 (gsCons 5 (gsCons 6 (gsCons 7 gsNil)))))
  (fSeq (fApp 3 (fTup (aCons (fN 5) (aCons (fN 6) (aCons (fN 7) aNil)))))
  (fIf (fAndT (fTru (fSl (fNw 6) (oSome (fC (.int 1))) oNo)) (fNotT (fTru (fCall 4 m_fails (aCons (fN 0) (aCons (fN 1) (aCons (fN 6) (aCons (fN 7) aNil)))))))) (fSeq (fAsg (fCall 4 m_handed (aCons (fN 0) (aCons (fBin dItem (fNw 6) (fC (.int 0))) (aCons (fN 7) (aCons (fLc (sSeq (fSl (fNw 6) (oSome (fC (.int 1))) oNo)) (gN 10) fYes (fCall 3 (m_seen 20) (aCons (fN 0) (aCons (fN 10) (aCons (fBin dSub (fNw 1) (fC (.int 1))) aNil)))) [10]) aNil))))) (gN 8))
  (fFor (sSeq (fRev (fLRg (fUn dLen (fNw 8))))) (gN 9) (fApp 4 (fTup (aCons (fBin dAdd (fNw 5) (fTup (aCons (fN 9) aNil))) (aCons (fBin dItem (fNw 6) (fBin dAdd (fNw 9) (fC (.int 1)))) (aCons (fBin dItem (fNw 8) (fNw 9)) aNil))))))) fNext)))
theorem alB_go {x2 : SV} {fd ws : List Ent} {w : Ent} (ho : w.2.1.ok A.ar) (hp : w.1.length ≤ 1000) (hf : fd.length ≤ 1000) (hw : ws.length ≤ 1000) (x5 x6 x7 x8 x9 x10 : SV) (h10 : x10.own = false) :
    ∃ x5' x6' x7' x8' x9', alB [.im A.d, .im (.int (k + 1 : Nat)), x2, .ow (fd.map enc3), .ow ((ws ++ [w]).map enc3), x5, x6, x7, x8, x9, x10] () =
      .nx [.im A.d, .im (.int (k + 1 : Nat)), x2, .ow ((fd ++ [w]).map enc3), .ow ((ws ++ wkids A R k w).map enc3), x5', x6', x7', x8', x9', x10] () := by
  obtain ⟨p, t, g⟩ := w
  have ef := fails_m hA hR hr hk ho (g := g)
  have es : ∀ u, u ∈ t.kids → m_seen 20 [A.d, u.d, .int k] = some (pd (seenL A R u k)) := fun u hu => seen_m hA hR hr 20 u k (by omega) ((T.ok_head ho).2.2 u hu)
  have gs : ∀ u, u ∈ t.kids → Good A (seenL A R u k) := fun u hu => seen_good hR ((T.ok_head ho).2.2 u hu)
  simp only at ho hp ef
  have pop : fPop 4 (gT 3 (gsCons 5 (gsCons 6 (gsCons 7 gsNil)))) [.im A.d, .im (.int (k + 1 : Nat)), x2, .ow (fd.map enc3), .ow ((ws ++ [(p, t, g)]).map enc3), x5, x6, x7, x8, x9, x10] () =
      .nx [.im A.d, .im (.int (k + 1 : Nat)), x2, .ow (fd.map enc3), .ow (ws.map enc3), .im (pd p), .im t.d, .im (pd g), x8, x9, x10] () := by
    simp [enc3]
  have app : fApp 3 (fTup (aCons (fN 5) (aCons (fN 6) (aCons (fN 7) aNil)))) [.im A.d, .im (.int (k + 1 : Nat)), x2, .ow (fd.map enc3), .ow (ws.map enc3), .im (pd p), .im t.d, .im (pd g), x8, x9, x10] () =
      .nx [.im A.d, .im (.int (k + 1 : Nat)), x2, .ow ((fd ++ [(p, t, g)]).map enc3), .ow (ws.map enc3), .im (pd p), .im t.d, .im (pd g), x8, x9, x10] () := by
    simp [enc3, show fd.length < 100000 by omega]
  cases hok : okB A R k t g with
  | false =>
    rw [hok] at ef
    have hkn : wkids A R k (p, t, g) = [] := by
      cases t <;> simp [wkids, hok]
    refine ⟨.im (pd p), .im t.d, .im (pd g), x8, x9, (seq_nx pop).trans ((seq_nx app).trans ?_)⟩
    rw [hkn, List.append_nil]
    refine (if_f (s' := ()) ?_).trans rfl
    simp at ef
    cases t <;> simp [T.d] at ef ⊢ <;> simp [ef]
  | true =>
    rw [hok] at ef
    cases t with
    | a s =>
      refine ⟨.im (pd p), .im (T.a s).d, .im (pd g), x8, x9, (seq_nx pop).trans ((seq_nx app).trans ?_)⟩
      refine (if_f (s' := ()) (by simp [T.d])).trans (by simp [wkids])
    | b s x =>
      have eh := handed1_m hA hR hr ho.1 ho.2.1 (g := g) (x := pd (seenL A R x k))
      have ex := es x (by simp [T.kids])
      refine ⟨.im (pd p), .im (T.b s x).d, .im (pd g), .im (.lst [pd (hand1 A R s g)]), .im (.int 0), (seq_nx pop).trans ((seq_nx app).trans ?_)⟩
      refine (if_t (s' := ()) (by simp at ef; simp [T.d] at ef ⊢; simp [ef])).trans ?_
      refine (seq_nx (ρ' := [.im A.d, .im (.int (k + 1 : Nat)), x2, .ow ((fd ++ [(p, T.b s x, g)]).map enc3), .ow (ws.map enc3), .im (pd p), .im (T.b s x).d, .im (pd g), .im (.lst [pd (hand1 A R s g)]), x9, x10]) (s' := ()) (by simp [T.d, h10, lcGo, ex, eh])).trans ?_
      refine (for_go (ds := [.int 0]) (s' := ()) (by simp [rg1])).trans ((go_nx rfl (ρ2 := [.im A.d, .im (.int (k + 1 : Nat)), x2, .ow ((fd ++ [(p, T.b s x, g)]).map enc3), .ow ((ws ++ wkids A R k (p, T.b s x, g)).map enc3), .im (pd p), .im (T.b s x).d, .im (pd g), .im (.lst [pd (hand1 A R s g)]), .im (.int 0), x10]) (s2 := ()) ?_).trans rfl)
      simp [wkids, hok, enc3, T.d, pd, show p.length ≤ 99999 by omega, show ws.length < 100000 by omega]
    | c s x y =>
      have eh := handed2_m hA hR hr ho.1 ho.2.1 (g := g) (gs x (by simp [T.kids])) (gs y (by simp [T.kids]))
      have ex := es x (by simp [T.kids])
      have ey := es y (by simp [T.kids])
      refine ⟨.im (pd p), .im (T.c s x y).d, .im (pd g), .im (.lst [pd (hand2a A R s g (seenL A R y k)), pd (hand2b A R s g (seenL A R x k))]), .im (.int 0), (seq_nx pop).trans ((seq_nx app).trans ?_)⟩
      refine (if_t (s' := ()) (by simp at ef; simp [T.d] at ef ⊢; simp [ef])).trans ?_
      refine (seq_nx (ρ' := [.im A.d, .im (.int (k + 1 : Nat)), x2, .ow ((fd ++ [(p, T.c s x y, g)]).map enc3), .ow (ws.map enc3), .im (pd p), .im (T.c s x y).d, .im (pd g), .im (.lst [pd (hand2a A R s g (seenL A R y k)), pd (hand2b A R s g (seenL A R x k))]), x9, x10]) (s' := ()) (by simp [T.d, h10, lcGo, ex, ey, eh])).trans ?_
      refine (for_go (ds := [.int 1, .int 0]) (s' := ()) (by simp [rg2])).trans ?_
      refine (go_nx rfl (ρ2 := [.im A.d, .im (.int (k + 1 : Nat)), x2, .ow ((fd ++ [(p, T.c s x y, g)]).map enc3), .ow ((ws ++ [(p ++ [1], y, hand2b A R s g (seenL A R x k))]).map enc3), .im (pd p), .im (T.c s x y).d, .im (pd g), .im (.lst [pd (hand2a A R s g (seenL A R y k)), pd (hand2b A R s g (seenL A R x k))]), .im (.int 1), x10]) (s2 := ()) ?_).trans ?_
      · simp [enc3, T.d, pd, show p.length ≤ 99999 by omega, show ws.length < 100000 by omega]
      · refine (go_nx rfl (ρ2 := [.im A.d, .im (.int (k + 1 : Nat)), x2, .ow ((fd ++ [(p, T.c s x y, g)]).map enc3), .ow ((ws ++ wkids A R k (p, T.c s x y, g)).map enc3), .im (pd p), .im (T.c s x y).d, .im (pd g), .im (.lst [pd (hand2a A R s g (seenL A R y k)), pd (hand2b A R s g (seenL A R x k))]), .im (.int 0), x10]) (s2 := ()) ?_).trans rfl
        simp [wkids, hok, enc3, T.d, pd, show p.length ≤ 99999 by omega, show ws.length + 1 < 100000 by omega]
omit hA hR hr hk in
theorem wkids_sz (w : Ent) : wSz (wkids A R k w) + 1 ≤ w.2.1.size := by
  obtain ⟨p, t, g⟩ := w
  cases t with
  | a s => simp [wkids, wSz, T.size]
  | b s x =>
    simp only [wkids]
    split <;> simp [wSz, T.size] <;> omega
  | c s x y =>
    simp only [wkids]
    split <;> simp [wSz, T.size] <;> omega
omit hA hR hr hk in
theorem wkids_ok {w : Ent} (ho : w.2.1.ok A.ar) : ∀ u ∈ wkids A R k w, u.2.1.ok A.ar ∧ u.1.length = w.1.length + 1 := by
  obtain ⟨p, t, g⟩ := w
  cases t with
  | a s => exact fun _ h => (nomatch h)
  | b s x =>
    simp only [wkids]
    split
    · intro u hu
      simp at hu
      subst hu
      exact ⟨ho.2.2, by simp⟩
    · exact fun _ h => (nomatch h)
  | c s x y =>
    simp only [wkids]
    split
    · intro u hu
      simp at hu
      rcases hu with rfl | rfl
      · exact ⟨ho.2.2.2, by simp⟩
      · exact ⟨ho.2.2.1, by simp⟩
    · exact fun _ h => (nomatch h)
omit hA hR hr hk in
theorem wSz_len (ws : List Ent) : ws.length ≤ wSz ws := by
  induction ws with
  | nil => simp
  | cons w r ih =>
    have := w.2.1.size_pos
    simp [wSz] at ih ⊢
    omega
omit hA hR hr hk in
theorem wSz_app (u v : List Ent) : wSz (u ++ v) = wSz u + wSz v := by simp [wSz]
theorem along_go {x2 : SV} : ∀ (n m : Nat) (ws fd : List Ent) (x5 x6 x7 x8 x9 x10 : SV), x10.own = false → (∀ w ∈ ws, w.2.1.ok A.ar ∧ w.1.length ≤ m) → wSz ws < n → fd.length + wSz ws ≤ 100 → m + n ≤ 500 →
    ∃ x5' x6' x7' x8' x9', fWhile (fTru (fNw 4)) alB n [.im A.d, .im (.int (k + 1 : Nat)), x2, .ow (fd.map enc3), .ow (ws.map enc3), x5, x6, x7, x8, x9, x10] () =
      .nx [.im A.d, .im (.int (k + 1 : Nat)), x2, .ow ((fd ++ ws.reverse.flatMap (visW A R k)).map enc3), .ow [], x5', x6', x7', x8', x9', x10] ()
  | 0, m, ws, fd, x5, x6, x7, x8, x9, x10, h10, hw, hn, _, _ => absurd hn (Nat.not_lt_zero _)
  | n + 1, m, ws, fd, x5, x6, x7, x8, x9, x10, h10, hw, hn, hf, hm => by
    rcases ws.eq_nil_or_concat with rfl | ⟨init, w, rfl⟩
    · exact ⟨x5, x6, x7, x8, x9, by simp [fWhile]⟩
    · simp only [List.concat_eq_append] at hw hn hf ⊢
      obtain ⟨how, hpw⟩ := hw w (by simp)
      have hl := wSz_len init
      have hs := wkids_sz (A := A) (R := R) (k := k) w
      rw [wSz_app] at hn hf
      have h1 : wSz [w] = w.2.1.size := by simp [wSz]
      rw [h1] at hn hf
      obtain ⟨y5, y6, y7, y8, y9, e1⟩ := alB_go hA hR hr hk (x2 := x2) (fd := fd) (ws := init) (w := w) how (by omega) (by omega) (by omega) x5 x6 x7 x8 x9 x10 h10
      obtain ⟨z5, z6, z7, z8, z9, e2⟩ := along_go n (m + 1) (init ++ wkids A R k w) (fd ++ [w]) y5 y6 y7 y8 y9 x10 h10 (fun u hu => by
        rcases List.mem_append.mp hu with hu | hu
        · obtain ⟨h2, h3⟩ := hw u (List.mem_append_left _ hu)
          exact ⟨h2, by omega⟩
        · obtain ⟨h2, h3⟩ := wkids_ok how u hu
          exact ⟨h2, by omega⟩) (by rw [wSz_app]; omega) (by rw [wSz_app, List.length_append, List.length_singleton]; omega) (by omega)
      refine ⟨z5, z6, z7, z8, z9, ?_⟩
      have ev : fd ++ (init ++ [w]).reverse.flatMap (visW A R k) = (fd ++ [w]) ++ (init ++ wkids A R k w).reverse.flatMap (visW A R k) := by
        rw [List.reverse_append, List.reverse_append, List.reverse_singleton, List.singleton_append, List.flatMap_cons, List.flatMap_append, visW_eq w, List.cons_append, List.append_assoc, List.singleton_append]
      rw [ev, ← e2]
      simp [fWhile] at e1 ⊢
      rw [e1]
theorem along_m {t : T} (ho : t.ok A.ar) (hz : t.size ≤ 15) : m_along [A.d, .int (k + 1 : Nat), t.d] = some (.lst ((vis A R k t (R.filter (goodB A))).map enc3)) := by
  have eg := good_states_m hA hR hr
  obtain ⟨z5, z6, z7, z8, z9, e⟩ := along_go hA hR hr hk (x2 := .im t.d) 20 0 [([], t, R.filter (goodB A))] [] .un .un .un .un .un .un rfl (by simpa using ho) (by simp [wSz]; omega) (by simp [wSz]; omega) (by decide)
  have ev : ([] : List Ent) ++ ([([], t, R.filter (goodB A))] : List Ent).reverse.flatMap (visW A R k) = vis A R k t (R.filter (goodB A)) := by
    simp [visW]
  rw [ev] at e
  refine run_rt ?_
  refine (seq_nx (ρ' := [.im A.d, .im (.int (k + 1 : Nat)), .im t.d, .ow [], .un, .un, .un, .un, .un, .un, .un]) (s' := ()) (by simp)).trans ?_
  refine (seq_nx (ρ' := [.im A.d, .im (.int (k + 1 : Nat)), .im t.d, .ow [], .ow ([([], t, R.filter (goodB A))].map enc3), .un, .un, .un, .un, .un, .un]) (s' := ()) (by simp [eg, enc3, pd])).trans ?_
  refine (seq_nx (s' := ()) e).trans ?_
  simp
theorem let_in_m {t : T} (ho : t.ok A.ar) (hz : t.size ≤ 15) : m_let_in [A.d, .int (k + 1 : Nat), t.d] = some (.bl ((vis A R k t (R.filter (goodB A))).all fun e => okB A R k e.2.1 e.2.2)) := by
  have ea := along_m hA hR hr hk ho hz
  have hl := vis_len (A := A) (R := R) (k := k) t (R.filter (goodB A))
  have el := lc_map (S := Unit) (s := ()) (ρ := [.im A.d, .im (.int (k + 1 : Nat)), .im t.d, .un, .un, .un]) (gf := gT 3 (gsCons 3 (gsCons 4 (gsCons 5 gsNil)))) (fe := fCall 4 m_fails (aCons (fN 0) (aCons (fN 1) (aCons (fN 4) (aCons (fN 5) aNil))))) (enc := enc3) (g := fun e => .bl (!okB A R k e.2.1 e.2.2)) (xs := vis A R k t (R.filter (goodB A))) fun e he => ⟨[.im A.d, .im (.int (k + 1 : Nat)), .im t.d, .im (pd e.1), .im e.2.1.d, .im (pd e.2.2)], by simp [enc3], by
    have := fails_m hA hR hr hk (T.sub_ok ho (vis_sub t _ e he).2.2) (g := e.2.2)
    simp at this
    simp [this]⟩
  simp at ea el
  simp [m_let_in, runP, F_let_in, ea, el, any_map, show (vis A R k t (R.filter (goodB A))).length ≤ 100000 by omega]
  simp [List.all_eq_not_any_not]
end
/-! ### the law's way -/
def enc2 (e : Ent) : D := .tup [pd e.1, pd e.2.2]
section
variable {A : Au} (hA : A.ok) {R : List Int} (hR : IsR A R) (hr : m_reachable [A.d] = some (pd R)) {k : Nat} (hk : k < 19)
include hA hR hr hk
def lsetB (rec : List D → Option D) : SF Unit := (fSeq (fAsg (fCall 5 rec (aCons (fN 0) (aCons (fN 1) (aCons (fN 2) (aCons (fBin dItem (fNw 3) (fBin dAdd (fNw 6) (fC (.int 1)))) (aCons (fCall 6 m_L_handed (aCons (fN 0) (aCons (fN 1) (aCons (fN 2) (aCons (fN 3) (aCons (fN 4) (aCons (fN 6) aNil))))))) aNil)))))) (gN 7))
  (fAsg (fBin dAdd (fNw 5) (fLc (sSeq (fNw 7)) (gT 2 (gsCons 9 (gsCons 10 gsNil))) fYes (fTup (aCons (fBin dAdd (fTup (aCons (fN 6) aNil)) (fNw 9)) (aCons (fN 10) aNil))) [9, 10])) (gN 5)))
omit hA hR hr hk in
theorem lsetB_go {rec : List D → Option D} {x0 x1 x2 : D} {t u : T} {g h : List Int} {a : Int} {acc es : List Ent} {x7 x8 x9 x10 : SV} (h9 : x9.own = false) (h10 : x10.own = false) (ha : 0 ≤ a) (hu : atI (D.int t.sym :: t.kids.map T.d) (a + 1) = some u.d) (hh : m_L_handed [x0, x1, x2, t.d, pd g, .int a] = some (pd h))
    (hrec : rec [x0, x1, x2, u.d, pd h] = some (.lst (es.map enc2))) (hl : ∀ e ∈ es, e.1.length ≤ 100) (hz : acc.length + es.length ≤ 1000) :
    ∃ x7', lsetB rec [.im x0, .im x1, .im x2, .im t.d, .im (pd g), .im (.lst (acc.map enc2)), .im (.int a), x7, x8, x9, x10] () = .nx [.im x0, .im x1, .im x2, .im t.d, .im (pd g), .im (.lst ((acc ++ es.map (pre a)).map enc2)), .im (.int a), x7', x8, x9, x10] () := by
  refine ⟨.im (.lst (es.map enc2)), ?_⟩
  refine (seq_nx (ρ' := [.im x0, .im x1, .im x2, .im t.d, .im (pd g), .im (.lst (acc.map enc2)), .im (.int a), .im (.lst (es.map enc2)), x8, x9, x10]) (s' := ()) ?_).trans ?_
  · have hd := t.d_eq
    rw [hd] at hh
    simp [hd, hu, hh, hrec]
  · have el := lc_map (S := Unit) (s := ()) (ρ := [.im x0, .im x1, .im x2, .im t.d, .im (pd g), .im (.lst (acc.map enc2)), .im (.int a), .im (.lst (es.map enc2)), x8, .un, .un]) (gf := gT 2 (gsCons 9 (gsCons 10 gsNil))) (fe := fTup (aCons (fBin dAdd (fTup (aCons (fN 6) aNil)) (fNw 9)) (aCons (fN 10) aNil))) (enc := enc2) (g := fun e => enc2 (pre a e)) (xs := es) fun e he => ⟨[.im x0, .im x1, .im x2, .im t.d, .im (pd g), .im (.lst (acc.map enc2)), .im (.int a), .im (.lst (es.map enc2)), x8, .im (pd e.1), .im (pd e.2.2)], by simp [enc2], by
      have := hl e he
      simp [enc2, pre, pd, show 1 + e.1.length ≤ 100000 by omega]⟩
    simp [h9, h10, show es.length ≤ 100000 by omega, el, show acc.length + es.length ≤ 100000 by omega, Function.comp_def]
theorem L_sets_m : ∀ (j : Nat) (t : T) (g : List Int), t.size ≤ j → t.size ≤ 100 → t.ok A.ar → m_L_sets j [A.d, pd R, .int (k + 1 : Nat), t.d, pd g] = some (.lst ((vis A R k t g).map enc2))
  | 0, t, g, h, _, _ => absurd h (by have := t.size_pos; omega)
  | j + 1, t, g, h, h1, ho => by
    have ih := fun u g => L_sets_m j u g
    have e1 : m_L_seen 20 [A.d, .tup (R.map D.int), t.d, .int (k + 1 : Nat)] = some (.tup ((seenL A R t (k + 1)).map D.int)) := L_seen_m hA hR 20 t (k + 1) (by omega) ho
    have hl := (seen_good hR (t := t) (k := k + 1) ho).len hA
    have el := lc_map (S := Unit) (s := ()) (ρ := [.im A.d, .im (.tup (R.map D.int)), .im (.int (k + 1 : Nat)), .im t.d, .im (.tup (g.map D.int)), .im (.lst [.tup [.tup [], .tup (g.map D.int)]]), .un, .un, .un, .un, .un]) (gf := gN 8) (fe := fBin dIn (fNw 8) (fNw 4)) (enc := D.int) (g := fun q => .bl (decide (q ∈ g))) (xs := seenL A R t (k + 1)) fun q _ => ⟨_, rfl, by simp⟩
    have et : fTru (fUn dAny (fLc (sSeq (fCall 4 (m_L_seen 20) (aCons (fN 0) (aCons (fN 1) (aCons (fN 3) (aCons (fN 2) aNil)))))) (gN 8) fYes (fBin dIn (fNw 8) (fNw 4)) [8])) [.im A.d, .im (pd R), .im (.int (k + 1 : Nat)), .im t.d, .im (pd g), .im (.lst ([([], t, g)].map enc2)), .un, .un, .un, .un, .un] () = some (okB A R k t g, ()) := by
      simp at e1 el
      simp [pd, enc2, e1, show (seenL A R t (k + 1)).length ≤ 100000 by omega, el, any_map, okB]
    have fin : ∀ es : List Ent, (∃ x6 x7 x8, fIf (fTru (fUn dAny (fLc (sSeq (fCall 4 (m_L_seen 20) (aCons (fN 0) (aCons (fN 1) (aCons (fN 3) (aCons (fN 2) aNil)))))) (gN 8) fYes (fBin dIn (fNw 8) (fNw 4)) [8]))) (fFor (sRg1 (fBin dSub (fUn dLen (fNw 3)) (fC (.int 1)))) (gN 6) (lsetB (m_L_sets j))) fNext [.im A.d, .im (pd R), .im (.int (k + 1 : Nat)), .im t.d, .im (pd g), .im (.lst ([([], t, g)].map enc2)), .un, .un, .un, .un, .un] () =
        .nx [.im A.d, .im (pd R), .im (.int (k + 1 : Nat)), .im t.d, .im (pd g), .im (.lst (es.map enc2)), x6, x7, x8, .un, .un] ()) → m_L_sets (j + 1) [A.d, pd R, .int (k + 1 : Nat), t.d, pd g] = some (.lst (es.map enc2)) := by
      rintro es ⟨x6, x7, x8, e⟩
      show runP 11 (F_L_sets (m_L_sets j)) _ = _
      refine run_rt ?_
      refine (seq_nx (ρ' := [.im A.d, .im (pd R), .im (.int (k + 1 : Nat)), .im t.d, .im (pd g), .im (.lst ([([], t, g)].map enc2)), .un, .un, .un, .un, .un]) (s' := ()) (by simp [enc2, pd])).trans ?_
      refine (seq_nx (s' := ()) e).trans ?_
      simp
    cases hok : okB A R k t g with
    | false =>
      rw [hok] at et
      have ev : vis A R k t g = [([], t, g)] := by
        cases t <;> simp [vis, hok]
      rw [ev]
      exact fin _ ⟨.un, .un, .un, (if_f (s' := ()) et).trans rfl⟩
    | true =>
      rw [hok] at et
      cases t with
      | a s => exact fin _ ⟨.un, .un, .un, (if_t (s' := ()) et).trans ((for_go (ds := []) (s' := ()) (by simp [T.d, rg0])).trans rfl)⟩
      | b s x =>
        have eh := (L_handed_m hA hR hr (show k < 20 by omega) ho (g := g) (a := 0)).1 s x rfl
        have ev : vis A R k (.b s x) g = [([], .b s x, g)] ++ (vis A R k x (hand1 A R s g)).map (pre 0) := by simp [vis, hok]
        have hx : x.size ≤ 100 := by simp [T.size] at h1; omega
        have vl := vis_len (A := A) (R := R) (k := k) x (hand1 A R s g)
        obtain ⟨x7, e2⟩ := lsetB_go (rec := m_L_sets j) (acc := [([], T.b s x, g)]) (x7 := .un) (x8 := .un) (x9 := .un) (x10 := .un) (u := x) (a := 0) rfl rfl (by decide) rfl eh (ih x _ (by simp [T.size] at h; omega) hx ho.2.2) (fun e he => by have := (vis_sub x _ e he).2.1; omega) (by simp; omega)
        rw [ev]
        exact fin _ ⟨.im (.int 0), x7, .un, (if_t (s' := ()) et).trans ((for_go (ds := [.int 0]) (s' := ()) (by simp [T.d, rg1])).trans ((go_nx rfl e2).trans rfl))⟩
      | c s x y =>
        have eh0 := (L_handed_m hA hR hr (show k < 20 by omega) ho (g := g) (a := 0)).2.1 s x y rfl rfl
        have eh1 := (L_handed_m hA hR hr (show k < 20 by omega) ho (g := g) (a := 1)).2.2 s x y rfl rfl
        have ev : vis A R k (.c s x y) g = [([], .c s x y, g)] ++ (vis A R k x (hand2a A R s g (seenL A R y k))).map (pre 0) ++ (vis A R k y (hand2b A R s g (seenL A R x k))).map (pre 1) := by simp [vis, hok]
        have hx : x.size ≤ 100 := by simp [T.size] at h1; omega
        have hy : y.size ≤ 100 := by simp [T.size] at h1; omega
        have vl := vis_len (A := A) (R := R) (k := k) x (hand2a A R s g (seenL A R y k))
        have vm := vis_len (A := A) (R := R) (k := k) y (hand2b A R s g (seenL A R x k))
        obtain ⟨x7, e2⟩ := lsetB_go (rec := m_L_sets j) (acc := [([], T.c s x y, g)]) (x7 := .un) (x8 := .un) (x9 := .un) (x10 := .un) (u := x) (a := 0) rfl rfl (by decide) rfl eh0 (ih x _ (by simp [T.size] at h; omega) hx ho.2.2.1) (fun e he => by have := (vis_sub x _ e he).2.1; omega) (by simp; omega)
        obtain ⟨y7, e3⟩ := lsetB_go (rec := m_L_sets j) (acc := [([], T.c s x y, g)] ++ (vis A R k x (hand2a A R s g (seenL A R y k))).map (pre 0)) (x7 := x7) (x8 := .un) (x9 := .un) (x10 := .un) (u := y) (a := 1) rfl rfl (by decide) rfl eh1 (ih y _ (by simp [T.size] at h; omega) hy ho.2.2.2) (fun e he => by have := (vis_sub y _ e he).2.1; omega) (by simp; omega)
        rw [ev]
        exact fin _ ⟨.im (.int 1), y7, .un, (if_t (s' := ()) et).trans ((for_go (ds := [.int 0, .int 1]) (s' := ()) (by simp [T.d, rg2])).trans ((go_nx rfl e2).trans ((go_nx rfl e3).trans rfl)))⟩
theorem L_sets_along_m (hLr : m_L_reachable [A.d] = some (pd R)) {t : T} (hz : t.size ≤ 20) (ho : t.ok A.ar) : m_L_sets_along [A.d, .int (k + 1 : Nat), t.d] = some (.tup ((vis A R k t (R.filter (goodB A))).map enc2)) := by
  have hl := hR.good.len hA
  have el := lc_filter (S := Unit) (s := ()) (ρ := [.im A.d, .im (.int (k + 1 : Nat)), .im t.d, .im (.tup (R.map D.int)), .un, .un]) (gf := gN 5) (ft := fTru (fBin dItem (fBin dItem (fNw 0) (fC (.int 1))) (fNw 5))) (fe := fN 5) (enc := D.int) (g := D.int) (p := goodB A) (xs := R) fun q hq => ⟨_, rfl, by
    have := good_at ((hR.good.re q hq).inr hA)
    simp [Au.d, this], by simp⟩
  have e1 := L_sets_m hA hR hr hk 20 t (R.filter (goodB A)) hz (by omega) ho
  refine run_rt ?_
  refine (seq_nx (s' := ()) (set_of (call_of (s' := ()) (xs := [A.d]) (by simp) rfl hLr))).trans ?_
  refine (seq_nx (ρ' := [.im A.d, .im (.int (k + 1 : Nat)), .im t.d, .im (pd R), .im (pd (R.filter (goodB A))), .un]) (s' := ()) ?_).trans ?_
  · simp at el
    simp [pd, show R.length ≤ 100000 by omega, el]
  · generalize m_L_sets 20 = f at e1
    simp at e1
    simp [e1]
theorem L_let_in_m (hLr : m_L_reachable [A.d] = some (pd R)) {t : T} (hz : t.size ≤ 20) (ho : t.ok A.ar) : m_L_let_in [A.d, .int (k + 1 : Nat), t.d] = some (.bl ((vis A R k t (R.filter (goodB A))).all fun e => okB A R k e.2.1 e.2.2)) := by
  have e1 := L_sets_along_m hA hR hr hk hLr hz ho
  have key : ∀ (es : List Ent) (x4 x5 : SV), (∀ e ∈ es, Pl e.1 ∧ t.sub e.1 = some e.2.1) →
      ((es.all fun e => okB A R k e.2.1 e.2.2) = true → ∃ x4' x5', forGo (gT 2 (gsCons 4 (gsCons 5 gsNil))) (fIf (fNotT (fTru (fUn dAny (fLc (sSeq (fCall 4 (m_L_seen 20) (aCons (fN 0) (aCons (fN 3) (aCons (fCall 2 m_L_part (aCons (fN 2) (aCons (fN 4) aNil))) (aCons (fN 1) aNil)))))) (gN 6) fYes (fBin dIn (fNw 6) (fNw 5)) [6])))) (fRet (fC (.bl false))) fNext) (es.map enc2) [.im A.d, .im (.int (k + 1 : Nat)), .im t.d, .im (pd R), x4, x5, .un] () =
        .nx [.im A.d, .im (.int (k + 1 : Nat)), .im t.d, .im (pd R), x4', x5', .un] ()) ∧
      ((es.all fun e => okB A R k e.2.1 e.2.2) = false → forGo (gT 2 (gsCons 4 (gsCons 5 gsNil))) (fIf (fNotT (fTru (fUn dAny (fLc (sSeq (fCall 4 (m_L_seen 20) (aCons (fN 0) (aCons (fN 3) (aCons (fCall 2 m_L_part (aCons (fN 2) (aCons (fN 4) aNil))) (aCons (fN 1) aNil)))))) (gN 6) fYes (fBin dIn (fNw 6) (fNw 5)) [6])))) (fRet (fC (.bl false))) fNext) (es.map enc2) [.im A.d, .im (.int (k + 1 : Nat)), .im t.d, .im (pd R), x4, x5, .un] () = .rt (.bl false) ()) := by
    intro es
    induction es with
    | nil => exact fun x4 x5 _ => ⟨fun _ => ⟨x4, x5, rfl⟩, fun h => (nomatch h)⟩
    | cons e es ih =>
      intro x4 x5 h
      obtain ⟨hp, hs⟩ := h e List.mem_cons_self
      have hoe := T.sub_ok ho hs
      have e2 := L_part_m (t := t) hp
      rw [hs] at e2
      have e3 : m_L_seen 20 [A.d, .tup (R.map D.int), e.2.1.d, .int (k + 1 : Nat)] = some (.tup ((seenL A R e.2.1 (k + 1)).map D.int)) := L_seen_m hA hR 20 e.2.1 (k + 1) (by omega) hoe
      have hl := (seen_good hR (t := e.2.1) (k := k + 1) hoe).len hA
      have el := lc_map (S := Unit) (s := ()) (ρ := [.im A.d, .im (.int (k + 1 : Nat)), .im t.d, .im (.tup (R.map D.int)), .im (.tup (e.1.map D.int)), .im (.tup (e.2.2.map D.int)), .un]) (gf := gN 6) (fe := fBin dIn (fNw 6) (fNw 5)) (enc := D.int) (g := fun q => .bl (decide (q ∈ e.2.2))) (xs := seenL A R e.2.1 (k + 1)) fun q _ => ⟨_, rfl, by simp⟩
      have et : fNotT (fTru (fUn dAny (fLc (sSeq (fCall 4 (m_L_seen 20) (aCons (fN 0) (aCons (fN 3) (aCons (fCall 2 m_L_part (aCons (fN 2) (aCons (fN 4) aNil))) (aCons (fN 1) aNil)))))) (gN 6) fYes (fBin dIn (fNw 6) (fNw 5)) [6]))) [.im A.d, .im (.int (k + 1 : Nat)), .im t.d, .im (pd R), .im (pd e.1), .im (pd e.2.2), .un] () = some (!okB A R k e.2.1 e.2.2, ()) := by
        simp [pd] at e2
        simp at e3 el
        simp [pd, e2, td, e3, show (seenL A R e.2.1 (k + 1)).length ≤ 100000 by omega, el, any_map, okB]
      have eg : gT 2 (gsCons 4 (gsCons 5 gsNil)) (enc2 e) [.im A.d, .im (.int (k + 1 : Nat)), .im t.d, .im (pd R), x4, x5, .un] = some [.im A.d, .im (.int (k + 1 : Nat)), .im t.d, .im (pd R), .im (pd e.1), .im (pd e.2.2), .un] := by simp [enc2]
      obtain ⟨i1, i2⟩ := ih (.im (pd e.1)) (.im (pd e.2.2)) fun z hz => h z (List.mem_cons_of_mem _ hz)
      cases hk' : okB A R k e.2.1 e.2.2 with
      | true =>
        rw [hk'] at et
        refine ⟨fun ha => ?_, fun ha => ?_⟩
        · obtain ⟨x4', x5', e4⟩ := i1 (by simpa [hk'] using ha)
          exact ⟨x4', x5', (go_nx eg ((if_f (s' := ()) et).trans rfl)).trans e4⟩
        · have e4 := i2 (by simpa [hk'] using ha)
          exact (go_nx eg ((if_f (s' := ()) et).trans rfl)).trans e4
      | false =>
        rw [hk'] at et
        refine ⟨fun ha => ?_, fun ha => ?_⟩
        · simp [hk'] at ha
        · exact go_rt eg (s2 := ()) ((if_t (s' := ()) et).trans rfl)
  obtain ⟨k1, k2⟩ := key (vis A R k t (R.filter (goodB A))) .un .un fun e he => by
    obtain ⟨h1, _, h2⟩ := vis_sub t _ e he
    exact ⟨h1, h2⟩
  refine run_rt ?_
  refine (seq_nx (s' := ()) (set_of (call_of (s' := ()) (xs := [A.d]) (by simp) rfl hLr))).trans ?_
  have ef : sSeq (fCall 3 m_L_sets_along (aCons (fN 0) (aCons (fN 1) (aCons (fN 2) aNil)))) [.im A.d, .im (.int (k + 1 : Nat)), .im t.d, .im (pd R), .un, .un, .un] () = some ((vis A R k t (R.filter (goodB A))).map enc2, ()) := seqq_of (call_of (s' := ()) (xs := [A.d, .int (k + 1 : Nat), t.d]) (by simp) rfl e1) rfl
  cases hall : (vis A R k t (R.filter (goodB A))).all fun e => okB A R k e.2.1 e.2.2 with
  | true =>
    obtain ⟨x4', x5', e4⟩ := k1 hall
    exact (seq_nx (s' := ()) ((for_go ef).trans e4)).trans rfl
  | false => exact seq_rt (s' := ()) ((for_go ef).trans (k2 hall))
end
/-- both ways answer alike -/
theorem let_in_same {A : Au} (hA : A.ok) {k : Nat} (hk : k < 19) {t : T} (ho : t.ok A.ar) (hz : t.size ≤ 15) : ∃ b, m_let_in [A.d, .int (k + 1 : Nat), t.d] = some (.bl b) ∧ m_L_let_in [A.d, .int (k + 1 : Nat), t.d] = some (.bl b) := by
  obtain ⟨R, hr, hR⟩ := reachable_m hA
  obtain ⟨S, hs, hS⟩ := L_reachable_m hA
  have e := hR.eq hS
  subst e
  exact ⟨_, let_in_m hA hR hr hk ho hz, L_let_in_m hA hR hr hk hs (by omega) ho⟩
end K7
end
section
set_option maxRecDepth 100000
/-! K76, plain law, part i: _law_equal of what is alike. -/
namespace K7
open PySem L2
mutual
def dep : D → Nat
  | .tup xs => 1 + depL xs
  | .lst xs => 1 + depL xs
  | _ => 0
def depL : List D → Nat
  | [] => 0
  | x :: xs => max (dep x) (depL xs)
end
mutual
/-- data that is compared: no handles, no dicts -/
def pln : D → Bool
  | .tup xs => decide (xs.length ≤ 1000) && plnL xs
  | .lst xs => decide (xs.length ≤ 1000) && plnL xs
  | .dic _ => false
  | .h _ => false
  | _ => true
def plnL : List D → Bool
  | [] => true
  | x :: xs => pln x && plnL xs
end
theorem dep_mem : ∀ {xs : List D} {x : D}, x ∈ xs → dep x ≤ depL xs
  | y :: xs, x, h => by
    rw [depL]
    rcases List.mem_cons.mp h with rfl | h
    · exact Nat.le_max_left _ _
    · exact Nat.le_trans (dep_mem h) (Nat.le_max_right _ _)
theorem pln_mem : ∀ {xs : List D} {x : D}, plnL xs = true → x ∈ xs → pln x = true
  | y :: xs, x, p, h => by
    rw [plnL, Bool.and_eq_true] at p
    rcases List.mem_cons.mp h with rfl | h
    · exact p.1
    · exact pln_mem p.2 h
theorem depL_le : ∀ {xs : List D} {n : Nat}, (∀ x ∈ xs, dep x ≤ n) → depL xs ≤ n
  | [], n, _ => by simp [depL]
  | x :: xs, n, h => by
    rw [depL]
    exact Nat.max_le.mpr ⟨h x List.mem_cons_self, depL_le fun y hy => h y (List.mem_cons_of_mem _ hy)⟩
theorem plnL_of : ∀ {xs : List D}, (∀ x ∈ xs, pln x = true) → plnL xs = true
  | [], _ => rfl
  | x :: xs, h => by
    rw [plnL, Bool.and_eq_true]
    exact ⟨h x List.mem_cons_self, plnL_of fun y hy => h y (List.mem_cons_of_mem _ hy)⟩
theorem eq_all {j : Nat} {x : D} {xs : List D} (hx : seq? x = some xs) (hl : xs.length ≤ 1000) (hlen : dLen x = some (.int xs.length)) (hit : ∀ i : Int, dItem x (.int i) = atI xs i) (ih : ∀ y ∈ xs, m_L_equal j [y, y] = some (.bl true)) :
    fRet (fUn dAll (fLc (sRg1 (fUn dLen (fNw 1))) (gN 2) fYes (fCall 2 (m_L_equal j) (aCons (fBin dItem (fNw 0) (fNw 2)) (aCons (fBin dItem (fNw 1) (fNw 2)) aNil))) [2])) [.im x, .im x, .un] () = .rt (.bl true) () := by
  have er := rg_of (S := Unit) (ρ := [.im x, .im x, .un]) (s := ()) (s' := ()) (fa := fUn dLen (fNw 1)) xs.length hl (by simp [hlen])
  have el := lc_map (S := Unit) (s := ()) (ρ := [.im x, .im x, .un]) (gf := gN 2) (fe := fCall 2 (m_L_equal j) (aCons (fBin dItem (fNw 0) (fNw 2)) (aCons (fBin dItem (fNw 1) (fNw 2)) aNil))) (enc := fun i : Nat => D.int ((0 : Int) + (i : Int))) (g := fun _ => .bl true) (xs := List.range xs.length) fun i hi => ⟨_, rfl, by
    have hi' : i < xs.length := List.mem_range.mp hi
    have e := List.getElem?_eq_getElem hi'
    have := ih _ (List.getElem_mem hi')
    simp [hit, e, this]⟩
  have ea := all_map (p := fun _ : Nat => true) (ys := List.range xs.length)
  have er' : sRg1 (fUn dLen (fNw 1)) [.im x, .im x, .un] () = some ((List.range xs.length).map fun i : Nat => D.int ((0 : Int) + (i : Int)), ()) := er
  rw [fRet_, fUn_, fLc_]
  simp only [er']
  simp [show xs.length ≤ 100000 by omega, -sRg1_]
  simp at el
  simp [el, ea]
theorem eq_refl : ∀ (j : Nat) (d : D), dep d < j → pln d = true → m_L_equal j [d, d] = some (.bl true)
  | 0, _, h, _ => absurd h (Nat.not_lt_zero _)
  | j + 1, d, h, p => by
    have ih := fun y => eq_refl j y
    cases d with
    | non => simp [m_L_equal, runP, F_L_equal]
    | bl b => simp [m_L_equal, runP, F_L_equal]
    | int i => simp [m_L_equal, runP, F_L_equal, m_L_is_integer, F_L_is_integer]
    | str x => simp [m_L_equal, runP, F_L_equal]
    | dic ks => simp [pln] at p
    | h a => simp [pln] at p
    | tup xs =>
      rw [pln, Bool.and_eq_true, decide_eq_true_eq] at p
      rw [dep] at h
      have e := eq_all (j := j) (x := .tup xs) rfl p.1 rfl (fun i => rfl) fun y hy => ih y (by have := dep_mem hy; omega) (pln_mem p.2 hy)
      show runP 3 (F_L_equal (m_L_equal j)) _ = _
      refine run_rt ?_
      generalize m_L_equal j = f at e
      simp only [F_L_equal]
      refine (seq_nx (ρ' := [.im (.tup xs), .im (.tup xs), .un]) (s' := ()) (by simp)).trans ?_
      refine (seq_nx (ρ' := [.im (.tup xs), .im (.tup xs), .un]) (s' := ()) (by simp)).trans ?_
      refine (seq_nx (ρ' := [.im (.tup xs), .im (.tup xs), .un]) (s' := ()) (by simp)).trans ?_
      refine (seq_nx (ρ' := [.im (.tup xs), .im (.tup xs), .un]) (s' := ()) (by simp)).trans ?_
      refine (seq_nx (ρ' := [.im (.tup xs), .im (.tup xs), .un]) (s' := ()) (by simp)).trans ?_
      refine (seq_nx (ρ' := [.im (.tup xs), .im (.tup xs), .un]) (s' := ()) (by simp)).trans ?_
      refine (seq_nx (ρ' := [.im (.tup xs), .im (.tup xs), .un]) (s' := ()) (by simp)).trans ?_
      exact e
    | lst xs =>
      rw [pln, Bool.and_eq_true, decide_eq_true_eq] at p
      rw [dep] at h
      have e := eq_all (j := j) (x := .lst xs) rfl p.1 rfl (fun i => rfl) fun y hy => ih y (by have := dep_mem hy; omega) (pln_mem p.2 hy)
      show runP 3 (F_L_equal (m_L_equal j)) _ = _
      refine run_rt ?_
      generalize m_L_equal j = f at e
      simp only [F_L_equal]
      refine (seq_nx (ρ' := [.im (.lst xs), .im (.lst xs), .un]) (s' := ()) (by simp)).trans ?_
      refine (seq_nx (ρ' := [.im (.lst xs), .im (.lst xs), .un]) (s' := ()) (by simp)).trans ?_
      refine (seq_nx (ρ' := [.im (.lst xs), .im (.lst xs), .un]) (s' := ()) (by simp)).trans ?_
      refine (seq_nx (ρ' := [.im (.lst xs), .im (.lst xs), .un]) (s' := ()) (by simp)).trans ?_
      refine (seq_nx (ρ' := [.im (.lst xs), .im (.lst xs), .un]) (s' := ()) (by simp)).trans ?_
      refine (seq_nx (ρ' := [.im (.lst xs), .im (.lst xs), .un]) (s' := ()) (by simp)).trans ?_
      refine (seq_nx (ρ' := [.im (.lst xs), .im (.lst xs), .un]) (s' := ()) (by simp)).trans ?_
      exact e
end K7
end
section
set_option maxRecDepth 100000
/-! K76, plain law, part j: is_automaton; commands. -/
namespace K7
open PySem L2
@[simp] theorem sZip_ {S : Type} {ρ : List SV} {s : S} {fa fb : EF S} : sZip fa fb ρ s = (fa ρ s).bind fun p => (fb ρ p.2).bind fun q => (match p.1, q.1 with | .tup xs, .tup ys => some (List.zipWith (fun x y => .tup [x, y]) xs ys, q.2) | _, _ => none) := rfl
theorem arities_m {A : Au} (hA : A.ok) : m_is_arities [pd A.ar] = some (.bl true) := by
  have ha := hA.al
  have el := lc_map (S := Unit) (s := ()) (ρ := [.im (.tup (A.ar.map D.int)), .un]) (gf := gN 1) (fe := fCall 3 m_is_number_trees (aCons (fN 1) (aCons (fC (.int 0)) (aCons (fC (.int 2)) aNil)))) (enc := D.int) (g := fun _ => .bl true) (xs := A.ar) fun a h => ⟨_, rfl, by
    obtain ⟨i, hi⟩ := List.mem_iff_getElem?.mp h
    obtain ⟨h1, h2⟩ := ar_range hA hi
    simp [h1, h2]⟩
  have ea := all_map (p := fun _ : Int => true) (ys := A.ar)
  simp [m_is_arities, runP, F_is_arities, pd, show (1 : Int) ≤ A.ar.length by omega, show (A.ar.length : Int) ≤ 4 by omega, show A.ar.length ≤ 100000 by omega, el, ea]
theorem row_end {n : Nat} {rs : List Int} (h : ∀ q ∈ rs, InR n q) (hl : rs.length ≤ 1000) (d0 d1 : D) (x4 x5 x6 : SV) (h6 : x6.own = false) :
    fRet (fUn dAll (fLc (sSeq (fNw 3)) (gN 6) fYes (fCall 3 m_is_number_trees (aCons (fN 6) (aCons (fC (.int 0)) (aCons (fBin dSub (fNw 2) (fC (.int 1))) aNil)))) [6])) [.im d0, .im d1, .im (.int n), .im (.lst (rs.map D.int)), x4, x5, x6] () = .rt (.bl true) () := by
  have el := lc_map (S := Unit) (s := ()) (ρ := [.im d0, .im d1, .im (.int n), .im (.lst (rs.map D.int)), x4, x5, .un]) (gf := gN 6) (fe := fCall 3 m_is_number_trees (aCons (fN 6) (aCons (fC (.int 0)) (aCons (fBin dSub (fNw 2) (fC (.int 1))) aNil)))) (enc := D.int) (g := fun _ => .bl true) (xs := rs) fun q hq => ⟨_, rfl, by
    have h1 := (h q hq).1
    have h2 := (h q hq).2
    simp [h1, show q ≤ (n : Int) - 1 by omega]⟩
  have ea := all_map (p := fun _ : Int => true) (ys := rs)
  simp [h6, show rs.length ≤ 100000 by omega, el, ea]
def rwB : SF Unit := (fSeq (fIf (fNotT (fTru (fUn dAll (fLc (sSeq (fNw 3)) (gN 5) fYes (fAndV (fUn (dIsi "tuple") (fNw 5)) (fBin dEq (fUn dLen (fNw 5)) (fNw 2))) [5])))) (fRet (fC (.bl false))) fNext)
  (fAsg (fLc2 (sSeq (fNw 3)) (gN 5) fYes (sSeq (fN 5)) (gN 6) fYes (fN 6) [5, 6] [6]) (gN 3)))
theorem rw_step {n : Nat} {rows : List (List D)} (h : ∀ r ∈ rows, r.length = n) (hl : rows.length ≤ 4) (hn : n ≤ 4) (d0 d1 : D) (x4 x5 x6 : SV) (h5 : x5.own = false) (h6 : x6.own = false) :
    rwB [.im d0, .im d1, .im (.int n), .im (.lst (rows.map D.tup)), x4, x5, x6] () = .nx [.im d0, .im d1, .im (.int n), .im (.lst (rows.flatMap fun r => r)), x4, x5, x6] () := by
  have el := lc_map (S := Unit) (s := ()) (ρ := [.im d0, .im d1, .im (.int n), .im (.lst (rows.map D.tup)), x4, .un, x6]) (gf := gN 5) (fe := fAndV (fUn (dIsi "tuple") (fNw 5)) (fBin dEq (fUn dLen (fNw 5)) (fNw 2))) (enc := D.tup) (g := fun _ => .bl true) (xs := rows) fun r hr => ⟨_, rfl, by simp [h r hr]⟩
  have ea := all_map (p := fun _ : List D => true) (ys := rows)
  have e2 := lc2_map (S := Unit) (s := ()) (ρ := [.im d0, .im d1, .im (.int n), .im (.lst (rows.map D.tup)), x4, .un, .un]) (gf := gN 5) (fi1 := sSeq (fN 5)) (gf1 := gN 6) (fe := fN 6) (vs1 := [6]) (enc := D.tup) (enc1 := id) (Y := fun r => r) (g := fun _ d => d) (xs := rows) fun r hr => ⟨_, rfl, by simp, by simp, fun d hd => ⟨_, rfl, by simp⟩⟩
  simp only [List.map_id'] at e2
  have hz : (rows.flatMap fun r => r).length ≤ 100000 := by
    have : ∀ (rs : List (List D)), (∀ r ∈ rs, r.length = n) → (rs.flatMap fun r => r).length ≤ 4 * rs.length := by
      intro rs
      induction rs with
      | nil => simp
      | cons r rs ih =>
        intro hh
        have := ih fun x hx => hh x (List.mem_cons_of_mem _ hx)
        have := hh r List.mem_cons_self
        simp only [List.flatMap_cons, List.length_append, List.length_cons]
        omega
    have := this rows h
    omega
  refine (seq_nx (ρ' := [.im d0, .im d1, .im (.int n), .im (.lst (rows.map D.tup)), x4, x5, x6]) (s' := ()) ?_).trans ?_
  · simp [h5, show rows.length ≤ 100000 by omega, el, ea]
  · rw [fAsg_, fLc2_]
    simp [h5, h6, -List.flatMap_id', -List.flatMap_id]
    simp at e2
    have hz' : (List.map List.length rows).sum ≤ 100000 := by simpa using hz
    simp [e2, hz']
theorem is_row_m {n : Nat} (hn : n ≤ 4) {e : En} {a : Int} (h : e.ok n a) : m_is_row [e.d, .int a, .int n] = some (.bl true) := by
  refine run_rt ?_
  refine (seq_nx (ρ' := [.im e.d, .im (.int a), .im (.int n), .im (.lst [e.d]), .un, .un, .un]) (s' := ()) (by simp)).trans ?_
  cases e with
  | e0 q =>
    obtain ⟨rfl, h2⟩ := h
    refine (seq_nx (ρ' := [.im (En.e0 q).d, .im (.int 0), .im (.int n), .im (.lst [(En.e0 q).d]), .un, .un, .un]) (s' := ()) ((for_go (ds := []) (s' := ()) (by simp [rg0])).trans rfl)).trans ?_
    exact row_end (rs := [q]) (by simpa using h2) (by simp) _ _ _ _ _ rfl
  | e1 r =>
    obtain ⟨rfl, h2, h3⟩ := h
    have e1 := rw_step (n := n) (rows := [r.map D.int]) (by simpa using h2) (by simp) hn (En.e1 r).d (.int 1) (.im (.int 0)) .un .un rfl rfl
    simp only [List.flatMap_cons, List.flatMap_nil, List.append_nil] at e1
    refine (seq_nx (s' := ()) ((for_go (ds := [.int 0]) (s' := ()) (by simp [rg1])).trans ((go_nx rfl e1).trans rfl))).trans ?_
    exact row_end (rs := r) h3 (by omega) _ _ _ _ _ rfl
  | e2 rs =>
    obtain ⟨rfl, h2, h3⟩ := h
    have e1 := rw_step (n := n) (rows := [rs.map pd]) (by simpa using h2) (by simp) hn (En.e2 rs).d (.int 2) (.im (.int 0)) .un .un rfl rfl
    have e2 := rw_step (n := n) (rows := rs.map fun r => r.map D.int) (by
      intro r hr
      obtain ⟨x, hx, rfl⟩ := List.mem_map.mp hr
      rw [List.length_map]
      exact (h3 x hx).1) (by rw [List.length_map]; omega) hn (En.e2 rs).d (.int 2) (.im (.int 1)) .un .un rfl rfl
    simp only [List.flatMap_cons, List.flatMap_nil, List.append_nil] at e1
    rw [List.map_map] at e2
    have ef : ((rs.map fun r => r.map D.int).flatMap fun r => r) = (rs.flatMap fun r => r).map D.int := by
      rw [List.map_flatMap, List.flatMap_map]
    rw [ef] at e2
    refine (seq_nx (s' := ()) ((for_go (ds := [.int 0, .int 1]) (s' := ()) (by simp [rg2])).trans ((go_nx rfl e1).trans ((go_nx rfl e2).trans rfl)))).trans ?_
    refine row_end (rs := rs.flatMap fun r => r) (fun q hq => ?_) ?_ _ _ _ _ _ rfl
    · obtain ⟨r, hr, hq⟩ := List.mem_flatMap.mp hq
      exact (h3 r hr).2 q hq
    · have : ∀ (xs : List (List Int)), (∀ r ∈ xs, r.length = n) → (xs.flatMap fun r => r).length ≤ 4 * xs.length := by
        intro xs
        induction xs with
        | nil => simp
        | cons r xs ih =>
          intro hh
          have := ih fun x hx => hh x (List.mem_cons_of_mem _ hx)
          have := hh r List.mem_cons_self
          simp only [List.flatMap_cons, List.length_append, List.length_cons]
          omega
      have := this rs fun r hr => (h3 r hr).1
      omega
theorem zip_ok {A : Au} (hA : A.ok) : ∀ p ∈ A.st.zip A.ar, p.1.ok A.n p.2 := by
  intro p hp
  obtain ⟨i, hi⟩ := List.mem_iff_getElem?.mp hp
  rw [List.getElem?_zip_eq_some] at hi
  exact hA.en i _ _ hi.2 hi.1
theorem is_automaton_m {A : Au} (hA : A.ok) : m_is_automaton [A.d] = some (.bl true) := by
  have hg := hA.gl
  have hs := hA.sl
  have ha := hA.al
  have er : m_is_arities [.tup (A.ar.map D.int)] = some (.bl true) := arities_m hA
  have hgl : A.good.length = A.n := rfl
  have el := lc_map (S := Unit) (s := ()) (ρ := [.im A.d, .im (pd A.ar), .im (.tup (A.good.map D.bl)), .im (.tup (A.st.map En.d)), .un, .un, .un]) (gf := gN 4) (fe := fUn (dIsi "bool") (fNw 4)) (enc := D.bl) (g := fun _ => .bl true) (xs := A.good) fun b _ => ⟨_, rfl, by simp⟩
  have ea := all_map (p := fun _ : Bool => true) (ys := A.good)
  have el2 := lc_map (S := Unit) (s := ()) (ρ := [.im A.d, .im (pd A.ar), .im (.tup (A.good.map D.bl)), .im (.tup (A.st.map En.d)), .un, .un, .un]) (gf := gT 2 (gsCons 5 (gsCons 6 gsNil))) (fe := fCall 3 m_is_row (aCons (fN 5) (aCons (fN 6) (aCons (fUn dLen (fNw 2)) aNil)))) (enc := fun p : En × Int => D.tup [p.1.d, .int p.2]) (g := fun _ => .bl true) (xs := A.st.zip A.ar) fun p hp => ⟨[.im A.d, .im (pd A.ar), .im (.tup (A.good.map D.bl)), .im (.tup (A.st.map En.d)), .un, .im p.1.d, .im (.int p.2)], by simp, by
    have := is_row_m (by omega) (zip_ok hA p hp)
    simp [hgl, this]⟩
  have ea2 := all_map (p := fun _ : En × Int => true) (ys := A.st.zip A.ar)
  have ez : List.zipWith (fun x y => D.tup [x, y]) (A.st.map En.d) (A.ar.map D.int) = (A.st.zip A.ar).map fun p : En × Int => D.tup [p.1.d, .int p.2] := by
    rw [List.zipWith_map, List.zip, List.map_zipWith]
  refine run_rt ?_
  refine (seq_nx (ρ' := [.im A.d, .un, .un, .un, .un, .un, .un]) (s' := ()) ?_).trans ?_
  · generalize m_is_arities = f at er
    simp [Au.d, pd, er]
  refine (seq_nx (ρ' := [.im A.d, .im (pd A.ar), .im (.tup (A.good.map D.bl)), .im (.tup (A.st.map En.d)), .un, .un, .un]) (s' := ()) (by simp [Au.d])).trans ?_
  refine (seq_nx (ρ' := [.im A.d, .im (pd A.ar), .im (.tup (A.good.map D.bl)), .im (.tup (A.st.map En.d)), .un, .un, .un]) (s' := ()) (by simp [hgl, show (1 : Int) ≤ A.n by omega, show (A.n : Int) ≤ 4 by omega])).trans ?_
  refine (seq_nx (ρ' := [.im A.d, .im (pd A.ar), .im (.tup (A.good.map D.bl)), .im (.tup (A.st.map En.d)), .un, .un, .un]) (s' := ()) (by simp [hgl, show A.n ≤ 100000 by omega, el, ea])).trans ?_
  refine (seq_nx (ρ' := [.im A.d, .im (pd A.ar), .im (.tup (A.good.map D.bl)), .im (.tup (A.st.map En.d)), .un, .un, .un]) (s' := ()) (by simp [pd, hs])).trans ?_
  have hzl : (A.st.zip A.ar).length ≤ 100000 := by simp; omega
  have ezi : sZip (fN 3) (fN 1) [.im A.d, .im (pd A.ar), .im (.tup (A.good.map D.bl)), .im (.tup (A.st.map En.d)), .un, .un, .un] () = some ((A.st.zip A.ar).map fun p : En × Int => D.tup [p.1.d, .int p.2], ()) := by
    rw [← ez]
    simp [pd]
  rw [fRet_, fUn_, fLc_, ezi]
  generalize hzz : A.st.zip A.ar = zz at *
  simp [hzl, el2, ea2]
theorem check_m {A : Au} (hA : A.ok) {x : Str} : m_check_automaton [A.d, .str x] = some .non := by
  have e := is_automaton_m hA
  unfold m_check_automaton runP
  generalize hf : m_is_automaton = f at e
  simp [F_check_automaton, hf, e]
end K7
end
section
set_option maxRecDepth 100000
/-! K76, plain law, part k: commands. -/
namespace K7
open PySem L2
inductive Cm where
  | put (t : T) | swap (i : Int) (p : List Int) (j : Int) (q : List Int) | take (i : Int) | good (q : Int) (b : Bool) | step (s : Int) (row : List Int) (q : Int)
def Cm.d : Cm → D
  | .put t => .tup [.str "put", t.d]
  | .swap i p j q => .tup [.str "swap", .int i, pd p, .int j, pd q]
  | .take i => .tup [.str "take", .int i]
  | .good q b => .tup [.str "good", .int q, .bl b]
  | .step s row q => .tup [.str "step", .int s, pd row, .int q]
/-- a command that fits the automaton -/
def Cm.ok (ar : List Int) (n : Nat) : Cm → Prop
  | .put t => t.ok ar ∧ t.size ≤ 15
  | .swap i p j q => 0 ≤ i ∧ i < 12 ∧ 0 ≤ j ∧ j < 12 ∧ Pl p ∧ p.length ≤ 14 ∧ Pl q ∧ q.length ≤ 14
  | .take i => 0 ≤ i ∧ i < 12
  | .good q _ => InR n q
  | .step s row q => 0 ≤ s ∧ ar[s.toNat]? = some (row.length : Int) ∧ (∀ x ∈ row, InR n x) ∧ InR n q
@[simp] theorem w01 : (("put" : Str) = "step") = False := eq_false (by decide)
@[simp] theorem w02 : (("put" : Str) = "good") = False := eq_false (by decide)
@[simp] theorem w03 : (("put" : Str) = "swap") = False := eq_false (by decide)
@[simp] theorem w04 : (("put" : Str) = "take") = False := eq_false (by decide)
@[simp] theorem w05 : (("swap" : Str) = "step") = False := eq_false (by decide)
@[simp] theorem w06 : (("swap" : Str) = "good") = False := eq_false (by decide)
@[simp] theorem w07 : (("swap" : Str) = "put") = False := eq_false (by decide)
@[simp] theorem w08 : (("swap" : Str) = "take") = False := eq_false (by decide)
@[simp] theorem w09 : (("take" : Str) = "step") = False := eq_false (by decide)
@[simp] theorem w10 : (("take" : Str) = "good") = False := eq_false (by decide)
@[simp] theorem w11 : (("take" : Str) = "put") = False := eq_false (by decide)
@[simp] theorem w12 : (("take" : Str) = "swap") = False := eq_false (by decide)
@[simp] theorem w13 : (("good" : Str) = "step") = False := eq_false (by decide)
@[simp] theorem w14 : (("good" : Str) = "put") = False := eq_false (by decide)
@[simp] theorem w15 : (("good" : Str) = "swap") = False := eq_false (by decide)
@[simp] theorem w16 : (("good" : Str) = "take") = False := eq_false (by decide)
@[simp] theorem w17 : (("step" : Str) = "good") = False := eq_false (by decide)
@[simp] theorem w18 : (("step" : Str) = "put") = False := eq_false (by decide)
@[simp] theorem w19 : (("step" : Str) = "swap") = False := eq_false (by decide)
@[simp] theorem w20 : (("step" : Str) = "take") = False := eq_false (by decide)
@[simp] theorem w21 : (("many" : Str) = "") = False := eq_false (by decide)
@[simp] theorem w22 : (("missing" : Str) = "") = False := eq_false (by decide)
@[simp] theorem w23 : (("place" : Str) = "") = False := eq_false (by decide)
@[simp] theorem w24 : (("overlap" : Str) = "") = False := eq_false (by decide)
@[simp] theorem w25 : (("great" : Str) = "") = False := eq_false (by decide)
@[simp] theorem is_num_g (v many : Int) : m_is_number_garden [.int v, .int many] = some (.bl (decide (0 ≤ v) && decide (v < many))) := by
  by_cases h : 0 ≤ v <;> simp [m_is_number_garden, runP, F_is_number_garden, h]
theorem is_state_m {A : Au} {q : Int} (h : InR A.n q) : m_is_state [A.d, .int q] = some (.bl true) := by
  have h1 := h.1
  have h2 : q < (A.good.length : Int) := h.2
  simp [m_is_state, runP, F_is_state, Au.d, h1, h2]
theorem short_m {p : List Int} (hp : Pl p) (hl : p.length ≤ 14) : m_is_short_place [pd p] = some (.bl true) := by
  have el := lc_map (S := Unit) (s := ()) (ρ := [.im (.tup (p.map D.int)), .un]) (gf := gN 1) (fe := fCall 2 m_is_number_garden (aCons (fN 1) (aCons (fC (.int 2)) aNil))) (enc := D.int) (g := fun _ => .bl true) (xs := p) fun a h => ⟨_, rfl, by
    rcases hp a h with rfl | rfl <;> simp⟩
  have ea := all_map (p := fun _ : Int => true) (ys := p)
  simp [m_is_short_place, runP, F_is_short_place, pd, show (p.length : Int) ≤ 14 by omega, show p.length ≤ 100000 by omega, el, ea]
theorem is_command_m {A : Au} (hA : A.ok) {c : Cm} (h : c.ok A.ar A.n) : m_is_command [c.d, A.d] = some (.bl true) := by
  cases c with
  | put t =>
    have e : m_is_tree [.tup (A.ar.map D.int), t.d] = some (.bl true) := is_tree_m h.1 h.2
    generalize hf : m_is_tree = f at e
    simp [m_is_command, runP, F_is_command, Cm.d, Au.d, pd, hf, e]
  | swap i p j q =>
    obtain ⟨h1, h2, h3, h4, h5, h6, h7, h8⟩ := h
    have e1 := short_m h5 h6
    have e2 := short_m h7 h8
    have es : m_is_swap [.tup [.str "swap", .int i, pd p, .int j, pd q]] = some (.bl true) := by
      generalize hf : m_is_short_place = f at e1 e2
      simp [m_is_swap, runP, F_is_swap, h1, h2, h3, h4, hf, e1, e2]
    generalize hf : m_is_swap = f at es
    simp [m_is_command, runP, F_is_command, Cm.d, hf, es]
  | take i =>
    simp [m_is_command, runP, F_is_command, Cm.d, h.1, h.2]
  | good q b =>
    have e := is_state_m (A := A) h
    simp [m_is_command, runP, F_is_command, Cm.d, e]
  | step s row q =>
    obtain ⟨h1, h2, h3, h4⟩ := h
    have e := is_state_m (A := A) h4
    have ea := at_ints h1 h2
    have hlt := lt_of_get h1 h2
    have hr := (ar_range hA h2).2
    have el := lc_map (S := Unit) (s := ()) (ρ := [.im (.tup [.str "step", .int s, .tup (row.map D.int), .int q]), .im A.d, .un]) (gf := gN 2) (fe := fCall 2 m_is_state (aCons (fN 1) (aCons (fN 2) aNil))) (enc := D.int) (g := fun _ => .bl true) (xs := row) fun a h => ⟨_, rfl, by
      have := is_state_m (A := A) (h3 a h)
      simp [this]⟩
    have eall := all_map (p := fun _ : Int => true) (ys := row)
    have es : m_is_step [.tup [.str "step", .int s, .tup (row.map D.int), .int q], A.d] = some (.bl true) := by
      refine run_rt ?_
      refine (seq_nx (ρ' := [.im (.tup [.str "step", .int s, .tup (row.map D.int), .int q]), .im A.d, .un]) (s' := ()) (by simp [Au.d, pd, h1, hlt])).trans ?_
      refine (seq_nx (ρ' := [.im (.tup [.str "step", .int s, .tup (row.map D.int), .int q]), .im A.d, .un]) (s' := ()) ?_).trans ?_
      · refine (if_f (s' := ()) ?_).trans rfl
        have e0 : fT (fBin dNe (fUn dLen (fBin dItem (fNw 0) (fC (.int 2)))) (fBin dItem (fBin dItem (fNw 1) (fC (.int 0))) (fBin dItem (fNw 0) (fC (.int 1))))) [.im (.tup [.str "step", .int s, .tup (row.map D.int), .int q]), .im A.d, .un] () = some (false, ()) := by simp [Au.d, pd, ea]
        rw [fOrT_, e0]
        simp [show row.length ≤ 100000 by omega, el, eall]
      · simp [e]
    generalize hf : m_is_step = f at es
    simp [m_is_command, runP, F_is_command, Cm.d, hf, pd, es]
end K7
end
section
set_option maxRecDepth 100000
/-! K76, plain law, part l: what a command leaves. -/
namespace K7
open PySem L2
def trd (ts : List T) : D := .tup (ts.map T.d)
theorem set_cut {α : Type} {xs : List α} {i : Nat} (h : i < xs.length) (v : α) : xs.take i ++ v :: xs.drop (i + 1) = xs.set i v := (List.set_eq_take_append_cons_drop.trans (if_pos h)).symm
theorem replaced_m {xs : List D} {i : Int} {v : D} (h1 : 0 ≤ i) (h2 : i < xs.length) (hl : xs.length ≤ 1000) : m_replaced [.tup xs, .int i, v] = some (.tup (xs.set i.toNat v)) := by
  rw [← set_cut (by omega)]
  have e : (i + 1).toNat = i.toNat + 1 := by omega
  have h3 : min i.toNat xs.length + 1 ≤ 100000 := by omega
  have h4 : min i.toNat xs.length + 1 + (xs.length - (i.toNat + 1)) ≤ 100000 := by omega
  simp [m_replaced, runP, F_replaced, h1, show (0 : Int) ≤ i + 1 by omega, e, h3, h4, show min i.toNat xs.length ≤ 99999 by omega]
theorem L_replaced_eq : m_L_replaced = m_replaced := rfl
/-! ### entries -/
def En.upd (e : En) (row : List Int) (q : Int) : En := match e, row with
  | .e0 _, _ => .e0 q
  | .e1 r, i :: _ => .e1 (r.set i.toNat q)
  | .e2 rs, i :: j :: _ => .e2 (rs.set i.toNat ((rs.getD i.toNat []).set j.toNat q))
  | e, _ => e
theorem upd_ok {n : Nat} {e : En} {row : List Int} {q : Int} (h : e.ok n row.length) (hr : ∀ x ∈ row, InR n x) (hq : InR n q) : (e.upd row q).ok n row.length := by
  have ms : ∀ {r : List Int} {i : Nat}, (∀ x ∈ r, InR n x) → ∀ x ∈ r.set i q, InR n x := fun {r i} hr x hx => (List.mem_or_eq_of_mem_set hx).elim (hr x) fun z => z ▸ hq
  cases e with
  | e0 q0 => exact ⟨h.1, hq⟩
  | e1 r =>
    match row, h with
    | [i], h => exact ⟨h.1, by rw [List.length_set]; exact h.2.1, ms h.2.2⟩
    | [], h => exact absurd h.1 (by simp)
    | _ :: _ :: _, h => exact absurd h.1 (by simp; omega)
  | e2 rs =>
    match row, h, hr with
    | [i, j], h, hr =>
      refine ⟨h.1, by rw [List.length_set]; exact h.2.1, fun r hx => ?_⟩
      rcases List.mem_or_eq_of_mem_set hx with hx | rfl
      · exact h.2.2 r hx
      · have hi : i.toNat < rs.length := by rw [h.2.1]; exact (hr i (by simp)).lt
        obtain ⟨h1, h2⟩ := h.2.2 _ (getD_some (d := []) hi).2
        exact ⟨by rw [List.length_set]; exact h1, ms h2⟩
    | [], h, _ => exact absurd h.1 (by simp)
    | [_], h, _ => exact absurd h.1 (by simp)
    | _ :: _ :: _ :: _, h, _ => exact absurd h.1 (by simp; omega)
theorem entry_m {n : Nat} (hn : n ≤ 4) {e : En} {row : List Int} {q : Int} (h : e.ok n row.length) (hr : ∀ x ∈ row, InR n x) :
    m_entry_with [e.d, pd row, .int q] = some (e.upd row q).d ∧ m_L_entry [e.d, pd row, .int q] = some (e.upd row q).d := by
  cases e with
  | e0 q0 =>
    match row, h with
    | [], h =>
      have e0 := eq_t0 (ns := [])
      simp at e0
      exact ⟨by simp [m_entry_with, runP, F_entry_with, pd, En.upd, En.d], by simp [m_L_entry, runP, F_L_entry, pd, En.upd, En.d, e0]⟩
    | _ :: _, h => exact absurd h.1 (by simp)
  | e1 r =>
    match row, h, hr with
    | [i], h, hr =>
      have hi := hr i (by simp)
      have h2 : r.length = n := h.2.1
      have er := replaced_m (xs := r.map D.int) (v := .int q) hi.1 (by have := hi.2; simp; omega) (by simp; omega)
      have e0 := eq_t0 (ns := [i])
      simp at e0
      rw [← List.map_set] at er
      generalize hf : m_replaced = f at er
      exact ⟨by simp [m_entry_with, runP, F_entry_with, pd, En.upd, En.d, hf, er], by simp [m_L_entry, runP, F_L_entry, pd, En.upd, En.d, e0, L_replaced_eq, hf, er]⟩
    | [], h, _ => exact absurd h.1 (by simp)
    | _ :: _ :: _, h, _ => exact absurd h.1 (by simp; omega)
  | e2 rs =>
    match row, h, hr with
    | [i, j], h, hr =>
      have hi := hr i (by simp)
      have hj := hr j (by simp)
      have h2 : rs.length = n := h.2.1
      obtain ⟨g1, g2⟩ := getD_some (xs := rs) (i := i.toNat) (d := []) (by rw [h2]; exact hi.lt)
      have h4 := (h.2.2 _ g2).1
      have ea : atI (rs.map pd) i = some (pd (rs.getD i.toNat [])) := at_pd hi.1 g1
      have e1 := replaced_m (xs := (rs.getD i.toNat []).map D.int) (v := .int q) hj.1 (by have := hj.2; rw [List.length_map]; omega) (by rw [List.length_map]; omega)
      have e2 := replaced_m (xs := rs.map pd) (v := pd ((rs.getD i.toNat []).set j.toNat q)) hi.1 (by have := hi.2; rw [List.length_map]; omega) (by rw [List.length_map]; omega)
      rw [← List.map_set] at e1 e2
      have eu : (En.e2 rs).upd [i, j] q = .e2 (rs.set i.toNat ((rs.getD i.toNat []).set j.toNat q)) := rfl
      rw [eu]
      generalize (rs.getD i.toNat []).set j.toNat q = r2 at e1 e2 ⊢
      generalize rs.getD i.toNat [] = r1 at ea e1
      have e0 := eq_t0 (ns := [i, j])
      simp at e0
      simp only [pd] at ea e1
      generalize hf : m_replaced = f at e1 e2
      have e2' : f [.tup (rs.map pd), .int i, .tup (r2.map D.int)] = some (.tup ((rs.set i.toNat r2).map pd)) := e2
      exact ⟨by simp [m_entry_with, runP, F_entry_with, En.d, hf]; simp [pd, ea, e1]; simp [pd] at e2'; simp [e2'], by simp [m_L_entry, runP, F_L_entry, En.d, L_replaced_eq, hf]; simp [pd, e0, ea, e1]; simp [pd] at e2'; simp [e2']⟩
    | [], h, _ => exact absurd h.1 (by simp)
    | [_], h, _ => exact absurd h.1 (by simp)
    | _ :: _ :: _ :: _, h, _ => exact absurd h.1 (by simp; omega)
end K7
end
section
set_option maxRecDepth 100000
/-! K76, plain law, part m: swaps; what is behind a command. -/
namespace K7
open PySem L2
/-- a place that is not above or below p shows what it showed -/
theorem T.put_sub_eq : ∀ (p q : List Int) (t u : T), ¬ p <+: q → ¬ q <+: p → (t.put p u).sub q = t.sub q
  | [], q, t, u, h, _ => absurd List.nil_prefix h
  | k :: p, [], t, u, _, h => absurd List.nil_prefix h
  | k :: p, l :: q, t, u, h1, h2 => by
    have g1 : l = k → ¬ p <+: q := fun e z => h1 (List.cons_prefix_cons.mpr ⟨e.symm, z⟩)
    have g2 : l = k → ¬ q <+: p := fun e z => h2 (List.cons_prefix_cons.mpr ⟨e, z⟩)
    cases t with
    | a s => simp [put]
    | b s x =>
      by_cases hk : k = 0
      · subst hk
        by_cases hl : l = 0
        · subst hl
          simpa [put, sub] using put_sub_eq p q x u (g1 rfl) (g2 rfl)
        · simp [put, sub, hl]
      · simp [put, hk]
    | c s x y =>
      by_cases hk : k = 0
      · subst hk
        by_cases hl : l = 0
        · subst hl
          simpa [put, sub] using put_sub_eq p q x u (g1 rfl) (g2 rfl)
        · by_cases hl1 : l = 1
          · subst hl1
            simp [put, sub]
          · simp [put, sub, hl, hl1]
      · by_cases hk1 : k = 1
        · subst hk1
          by_cases hl : l = 1
          · subst hl
            simpa [put, sub] using put_sub_eq p q y u (g1 rfl) (g2 rfl)
          · by_cases hl0 : l = 0
            · subst hl0
              simp [put, sub]
            · simp [put, sub, hl, hl0]
        · simp [put, hk, hk1]
theorem T.put_size_eq : ∀ {p : List Int} {t u v : T}, t.sub p = some u → (t.put p v).size + u.size = t.size + v.size
  | [], t, u, v, e => by
    rw [sub_nil] at e
    cases e
    rw [put_nil]
    omega
  | k :: p, t, u, v, e => by
    unfold sub at e
    split at e
    · have := put_size_eq (v := v) e; simp [put, size]; omega
    · have := put_size_eq (v := v) e; simp [put, size]; omega
    · have := put_size_eq (v := v) e; simp [put, size]; omega
    · cases e
def swp (ts : List T) (i : Int) (t1 u1 : T) (p : List Int) (j : Int) (u2 : T) (q : List Int) : List T :=
  (ts.set i.toNat (t1.put p u2)).set j.toNat (((ts.set i.toNat (t1.put p u2)).getD j.toNat t1).put q u1)
/-- all that a swap needs -/
structure SwOk (ts : List T) (i : Int) (p : List Int) (j : Int) (q : List Int) (t1 t2 u1 u2 : T) : Prop where
  i0 : 0 ≤ i
  j0 : 0 ≤ j
  g1 : ts[i.toNat]? = some t1
  g2 : ts[j.toNat]? = some t2
  s1 : t1.sub p = some u1
  s2 : t2.sub q = some u2
  p1 : Pl p
  p2 : Pl q
  ov : i = j → ¬ p <+: q ∧ ¬ q <+: p
  sz : ∀ t ∈ ts, t.size ≤ 15
  tl : ts.length ≤ 12
theorem at_trees {ts : List T} {i : Int} {t : T} (h : 0 ≤ i) (e : ts[i.toNat]? = some t) : atI (ts.map T.d) i = some t.d := by
  rw [atI_nn h, List.getElem?_map, e]
  rfl
section
variable {ts : List T} {i j : Int} {p q : List Int} {t1 t2 u1 u2 : T} (h : SwOk ts i p j q t1 t2 u1 u2)
include h
theorem SwOk.mid : ∃ t3, (ts.set i.toNat (t1.put p u2))[j.toNat]? = some t3 ∧ (ts.set i.toNat (t1.put p u2)).getD j.toNat t1 = t3 ∧ t3.sub q = some u2 ∧ (i = j → t3 = t1.put p u2 ∧ t2 = t1) ∧ (i ≠ j → t3 = t2) := by
  have hi := (List.getElem?_eq_some_iff.mp h.g1).1
  have hj := (List.getElem?_eq_some_iff.mp h.g2).1
  by_cases e : i = j
  · subst e
    have e2 : t2 = t1 := by
      have := h.g1.symm.trans h.g2
      cases this
      rfl
    refine ⟨t1.put p u2, List.getElem?_set_self hi, ?_, ?_, fun _ => ⟨rfl, e2⟩, fun z => absurd rfl z⟩
    · rw [List.getD_eq_getElem?_getD, List.getElem?_set_self hi]
      rfl
    · obtain ⟨o1, o2⟩ := h.ov rfl
      rw [T.put_sub_eq p q t1 u2 o1 o2, ← e2]
      exact h.s2
  · have ne : i.toNat ≠ j.toNat := by
      have := h.i0
      have := h.j0
      omega
    refine ⟨t2, by rw [List.getElem?_set_ne ne]; exact h.g2, ?_, h.s2, fun z => absurd z e, fun _ => rfl⟩
    rw [List.getD_eq_getElem?_getD, List.getElem?_set_ne ne, h.g2]
    rfl
theorem SwOk.pl : p.length ≤ 14 ∧ q.length ≤ 14 := by
  have a := T.sub_size h.s1
  have b := T.sub_size h.s2
  have c := h.sz t1 (List.mem_of_getElem? h.g1)
  have d := h.sz t2 (List.mem_of_getElem? h.g2)
  have := u1.size_pos
  have := u2.size_pos
  omega
theorem SwOk.ints : i < ts.length ∧ j < ts.length := by
  have hi := (List.getElem?_eq_some_iff.mp h.g1).1
  have hj := (List.getElem?_eq_some_iff.mp h.g2).1
  have := h.i0
  have := h.j0
  omega
/-- the two trees that a swap leaves, their sizes -/
theorem SwOk.out : ∃ a b, (swp ts i t1 u1 p j u2 q)[i.toNat]? = some a ∧ (swp ts i t1 u1 p j u2 q)[j.toNat]? = some b ∧ a.size ≤ 40 ∧ b.size ≤ 40 := by
  have hi := (List.getElem?_eq_some_iff.mp h.g1).1
  have hj := (List.getElem?_eq_some_iff.mp h.g2).1
  obtain ⟨t3, m1, m2, m3, m4, m5⟩ := h.mid
  have z1 := T.put_size_eq (v := u2) h.s1
  have z3 := T.put_size_eq (v := u1) m3
  have c := h.sz t1 (List.mem_of_getElem? h.g1)
  have d := h.sz t2 (List.mem_of_getElem? h.g2)
  have b1 := T.sub_size h.s1
  have b2 := T.sub_size h.s2
  unfold swp
  rw [m2]
  by_cases e : i = j
  · obtain ⟨e1, e2⟩ := m4 e
    subst e
    have l : i.toNat < (ts.set i.toNat (t1.put p u2)).length := by rw [List.length_set]; exact hi
    refine ⟨t3.put q u1, t3.put q u1, List.getElem?_set_self l, List.getElem?_set_self l, ?_, ?_⟩ <;> (rw [e1] at z3 ⊢; omega)
  · have ne : j.toNat ≠ i.toNat := by
      have := h.i0
      have := h.j0
      omega
    have e3 := m5 e
    have l : j.toNat < (ts.set i.toNat (t1.put p u2)).length := by rw [List.length_set]; exact hj
    refine ⟨t1.put p u2, t3.put q u1, by rw [List.getElem?_set_ne ne]; exact List.getElem?_set_self hi, List.getElem?_set_self l, by omega, by rw [e3] at z3 ⊢; omega⟩
theorem SwOk.steps : m_put_at 20 [t1.d, pd p, u2.d] = some (t1.put p u2).d ∧ m_L_put 20 [t1.d, pd p, u2.d] = some (t1.put p u2).d ∧
    m_replaced [trd ts, .int i, (t1.put p u2).d] = some (trd (ts.set i.toNat (t1.put p u2))) ∧
    ∃ t3 : T, atI ((ts.set i.toNat (t1.put p u2)).map T.d) j = some t3.d ∧ m_put_at 20 [t3.d, pd q, u1.d] = some (t3.put q u1).d ∧ m_L_put 20 [t3.d, pd q, u1.d] = some (t3.put q u1).d ∧
      m_replaced [trd (ts.set i.toNat (t1.put p u2)), .int j, (t3.put q u1).d] = some (trd (swp ts i t1 u1 p j u2 q)) := by
  have hl := h.pl
  have hi := h.ints
  have ht := h.tl
  obtain ⟨t3, m1, m2, m3, m4, m5⟩ := h.mid
  have r1 := replaced_m (xs := ts.map T.d) (v := (t1.put p u2).d) h.i0 (by rw [List.length_map]; exact hi.1) (by rw [List.length_map]; omega)
  have r2 := replaced_m (xs := (ts.set i.toNat (t1.put p u2)).map T.d) (v := (t3.put q u1).d) h.j0 (by rw [List.length_map, List.length_set]; exact hi.2) (by rw [List.length_map, List.length_set]; omega)
  rw [← List.map_set] at r1 r2
  refine ⟨put_at_m 20 p t1 u2 (by omega) h.p1 (by rw [h.s1]; rfl), L_put_m 20 p t1 u2 (by omega) h.p1 (by rw [h.s1]; rfl), r1, t3, at_trees h.j0 m1, put_at_m 20 q t3 u1 (by omega) h.p2 (by rw [m3]; rfl), L_put_m 20 q t3 u1 (by omega) h.p2 (by rw [m3]; rfl), ?_⟩
  unfold swp
  rw [m2]
  exact r2
theorem SwOk.L_swapped : m_L_swapped [trd ts, (Cm.swap i p j q).d] = some (trd (swp ts i t1 u1 p j u2 q)) := by
  obtain ⟨a1, a2, a3, t3, a4, a5, a6, a7⟩ := h.steps
  have e1 := at_trees h.i0 h.g1
  have e2 := at_trees h.j0 h.g2
  have e3 := L_part_m (t := t1) h.p1
  have e4 := L_part_m (t := t2) h.p2
  rw [h.s1] at e3
  rw [h.s2] at e4
  unfold m_L_swapped
  refine run_rt ?_
  simp only [F_L_swapped, L_replaced_eq]
  generalize m_L_part = f1 at e3 e4
  generalize m_replaced = f2 at a3 a7
  generalize m_L_put 20 = f3 at a2 a6
  simp only [td] at e3 e4
  simp only [trd] at a3 a7
  generalize ts.set i.toNat (t1.put p u2) = ms at a3 a4 a7
  simp [Cm.d, trd, e1, e2, e3, e4, a2, a3, a4, a6, a7]
end
/-! ### why not -/
def szI (ts : List T) (i : Int) : Nat := match ts[i.toNat]? with
  | some t => t.size
  | none => 0
def why (ts : List T) : Cm → Str
  | .put _ => if 12 ≤ ts.length then "many" else ""
  | .take i => if (ts.length : Int) ≤ i then "missing" else ""
  | .swap i p j q => if (ts.length : Int) ≤ i ∨ (ts.length : Int) ≤ j then "missing" else match ts[i.toNat]?, ts[j.toNat]? with
    | some t1, some t2 => match t1.sub p, t2.sub q with
      | some u1, some u2 => if i = j ∧ (p.take q.length = q ∨ q.take p.length = p) then "overlap" else if 15 < szI (swp ts i t1 u1 p j u2 q) i ∨ 15 < szI (swp ts i t1 u1 p j u2 q) j then ("great" : Str) else ""
      | _, _ => "place"
    | _, _ => "missing"
  | _ => ""
/-- the trees stand -/
structure TsOk (ar : List Int) (ts : List T) : Prop where
  tl : ts.length ≤ 12
  ok : ∀ t ∈ ts, t.ok ar ∧ t.size ≤ 15
def cutE (p q : List Int) : Bool := decide (p.take q.length = q) || decide (q.take p.length = p)
theorem cut_m {p q : List Int} : dEq (.tup ((p.map D.int).take q.length)) (.tup (q.map D.int)) = some (.bl (decide (p.take q.length = q))) := by
  rw [← List.map_take]
  exact eq_t
@[simp] theorem isN_d {t : T} : dIsN t.d .non = some (.bl false) := by cases t <;> rfl
theorem pre_take {p q : List Int} (h : ¬ p.take q.length = q) : ¬ q <+: p := fun z => h (List.prefix_iff_eq_take.mp z).symm
theorem runX_np {n : Nat} {f : SF Unit} {xs : List D} {y : Str} (h : f (xs.map SV.im ++ List.replicate (n - xs.length) SV.un) () = .np y ()) : runX n f xs () = some (.inr y, ()) := by
  unfold runX
  rw [h]
theorem runX_rt {n : Nat} {f : SF Unit} {xs : List D} {d : D} (h : f (xs.map SV.im ++ List.replicate (n - xs.length) SV.un) () = .rt d ()) : runX n f xs () = some (.inl d, ()) := by
  unfold runX
  rw [h]
theorem seq_np {S : Type} {f g : SF S} {ρ : List SV} {s s' : S} {y : Str} (h : f ρ s = .np y s') : fSeq f g ρ s = .np y s' := by rw [fSeq_, h]
@[simp] theorem fRaise_ {S : Type} {ρ : List SV} {s : S} {m : Str} : fRaise m ρ s = .np m s := rfl
/-- the slots of swapped -/
def Sw (ts : List T) (i : Int) (p : List Int) (j : Int) (q : List Int) (x7 x8 x9 : SV) : List SV := [.im (trd ts), .im (Cm.swap i p j q).d, .im (.str "swap"), .im (.int i), .im (pd p), .im (.int j), .im (pd q), x7, x8, x9]
def wTail : SF Unit := fSeq (fIf (fOrT (fT (fBin dIsN (fCall 2 m_L_part (aCons (fBin dItem (fNw 0) (fNw 4)) (aCons (fN 5) aNil))) (fC .non))) (fT (fBin dIsN (fCall 2 m_L_part (aCons (fBin dItem (fNw 0) (fNw 6)) (aCons (fN 7) aNil))) (fC .non)))) (fRet (fC (.str "place"))) fNext) (fSeq (fIf (fAndT (fT (fBin dEq (fNw 4) (fNw 6))) (fOrT (fT (fBin dEq (fSl (fNw 5) oNo (oSome (fUn dLen (fNw 7)))) (fNw 7))) (fT (fBin dEq (fSl (fNw 7) oNo (oSome (fUn dLen (fNw 5)))) (fNw 5))))) (fRet (fC (.str "overlap"))) fNext) (fSeq (fAsg (fCall 2 m_L_swapped (aCons (fN 0) (aCons (fN 1) aNil))) (gN 8)) (fRet (fBin dItem (fLst (aCons (fC (.str "")) (aCons (fC (.str "great")) aNil))) (fUn dToInt (fBin dGt (fBin dMax2 (fCall 1 m_L_size (aCons (fBin dItem (fNw 8) (fNw 4)) aNil)) (fCall 1 m_L_size (aCons (fBin dItem (fNw 8) (fNw 6)) aNil))) (fC (.int 15))))))))
theorem swapped_m {ar : List Int} {ts : List T} {i j : Int} {p q : List Int} (ht : TsOk ar ts) (hi : 0 ≤ i) (hj : 0 ≤ j) (hp : Pl p) (hq : Pl q) :
    (why ts (.swap i p j q) = "" ∧ ∃ ts', m_swapped [trd ts, (Cm.swap i p j q).d] () = some (.inl (trd ts'), ()) ∧ m_L_swapped [trd ts, (Cm.swap i p j q).d] = some (trd ts') ∧ TsOk ar ts' ∧ m_L_why_not [trd ts, (Cm.swap i p j q).d] = some (.str "")) ∨
    (why ts (.swap i p j q) ≠ "" ∧ m_swapped [trd ts, (Cm.swap i p j q).d] () = some (.inr (why ts (.swap i p j q)), ()) ∧ m_L_why_not [trd ts, (Cm.swap i p j q).d] = some (.str (why ts (.swap i p j q)))) := by
  have o1 : fAsg (fN 1) (gT 5 (gsCons 2 (gsCons 3 (gsCons 4 (gsCons 5 (gsCons 6 gsNil)))))) ([trd ts, (Cm.swap i p j q).d].map SV.im ++ List.replicate (10 - 2) SV.un) () = .nx (Sw ts i p j q .un .un .un) () := by
    simp [Cm.d, Sw]
  by_cases hm : (ts.length : Int) ≤ i ∨ (ts.length : Int) ≤ j
  · have ew : why ts (.swap i p j q) = "missing" := by simp only [why]; rw [if_pos hm]
    rw [ew]
    refine .inr ⟨by simp, runX_np ((seq_nx o1).trans (seq_np (s' := ()) ?_)), ?_⟩
    · refine (if_t (s' := ()) ?_).trans rfl
      rcases hm with h | h
      · simp [Sw, trd, h]
      · by_cases h2 : (ts.length : Int) ≤ i <;> simp [Sw, trd, h, h2]
    · rcases hm with h | h
      · simp [m_L_why_not, runP, F_L_why_not, Cm.d, trd, h]
      · by_cases h2 : (ts.length : Int) ≤ i <;> simp [m_L_why_not, runP, F_L_why_not, Cm.d, trd, h, h2]
  · have hi2 : i < (ts.length : Int) := by omega
    have hj2 : j < (ts.length : Int) := by omega
    have gi := List.getElem?_eq_getElem (l := ts) (i := i.toNat) (by omega)
    have gj := List.getElem?_eq_getElem (l := ts) (i := j.toNat) (by omega)
    generalize ts[i.toNat] = t1 at gi
    generalize ts[j.toNat] = t2 at gj
    have e1 := at_trees hi gi
    have e2 := at_trees hj gj
    have m1 := part_at_m (t := t1) hp
    have m2 := part_at_m (t := t2) hq
    have l1 := L_part_m (t := t1) hp
    have l2 := L_part_m (t := t2) hq
    have o2 : fIf (fOrT (fT (fBin dGe (fNw 3) (fUn dLen (fNw 0)))) (fT (fBin dGe (fNw 5) (fUn dLen (fNw 0))))) (fRaise "missing") fNext (Sw ts i p j q .un .un .un) () = .nx (Sw ts i p j q .un .un .un) () := by
      simp [Sw, trd, show ¬ (ts.length : Int) ≤ i by omega, show ¬ (ts.length : Int) ≤ j by omega]
    have o3 : fPar 7 8 (aCons (fCall 2 m_part_at (aCons (fBin dItem (fNw 0) (fNw 3)) (aCons (fN 4) aNil))) (aCons (fCall 2 m_part_at (aCons (fBin dItem (fNw 0) (fNw 5)) (aCons (fN 6) aNil))) aNil)) (Sw ts i p j q .un .un .un) () = .nx (Sw ts i p j q (.im (td (t1.sub p))) (.im (td (t2.sub q))) .un) () := by
      generalize m_part_at = f at m1 m2
      simp [Sw, trd, e1, e2, m1, m2]
    -- the law's way up to the parts
    have w0 : ∀ r, wTail [.im (trd ts), .im (Cm.swap i p j q).d, .im (.int ts.length), .im (.str "swap"), .im (.int i), .im (pd p), .im (.int j), .im (pd q), .un] () = .rt r () → m_L_why_not [trd ts, (Cm.swap i p j q).d] = some r := by
      intro r h
      refine run_rt ?_
      refine (seq_nx (ρ' := [.im (trd ts), .im (Cm.swap i p j q).d, .im (.int ts.length), .un, .un, .un, .un, .un, .un]) (s' := ()) (by simp [trd])).trans ?_
      refine (seq_nx (ρ' := [.im (trd ts), .im (Cm.swap i p j q).d, .im (.int ts.length), .un, .un, .un, .un, .un, .un]) (s' := ()) (by simp [Cm.d])).trans ?_
      refine (seq_nx (ρ' := [.im (trd ts), .im (Cm.swap i p j q).d, .im (.int ts.length), .un, .un, .un, .un, .un, .un]) (s' := ()) (by simp [Cm.d])).trans ?_
      refine (seq_nx (ρ' := [.im (trd ts), .im (Cm.swap i p j q).d, .im (.int ts.length), .un, .un, .un, .un, .un, .un]) (s' := ()) (by simp [Cm.d])).trans ?_
      refine (seq_nx (ρ' := [.im (trd ts), .im (Cm.swap i p j q).d, .im (.int ts.length), .im (.str "swap"), .im (.int i), .im (pd p), .im (.int j), .im (pd q), .un]) (s' := ()) (by simp [Cm.d])).trans ?_
      refine (seq_nx (ρ' := [.im (trd ts), .im (Cm.swap i p j q).d, .im (.int ts.length), .im (.str "swap"), .im (.int i), .im (pd p), .im (.int j), .im (pd q), .un]) (s' := ()) (by simp [show ¬ (ts.length : Int) ≤ i by omega, show ¬ (ts.length : Int) ≤ j by omega])).trans h
    by_cases hs : t1.sub p = none ∨ t2.sub q = none
    · have ew : why ts (.swap i p j q) = "place" := by
        simp only [why]
        rw [if_neg hm, gi, gj]
        rcases hs with h | h
        · simp [h]
        · cases h1 : t1.sub p <;> simp [h, h1]
      rw [ew]
      refine .inr ⟨by simp, runX_np ((seq_nx o1).trans ((seq_nx o2).trans ((seq_nx o3).trans (seq_np (s' := ()) ?_)))), w0 _ (seq_rt (s' := ()) ?_)⟩
      · refine (if_t (s' := ()) ?_).trans rfl
        rcases hs with h | h
        · simp [Sw, h, td]
        · cases h1 : t1.sub p <;> simp [Sw, h, h1, td]
      · refine (if_t (s' := ()) ?_).trans rfl
        generalize m_L_part = f at l1 l2
        rcases hs with h | h
        · rw [h] at l1
          simp only [td] at l1
          simp [trd, e1, l1]
        · rw [h] at l2
          cases h1 : t1.sub p with
          | none =>
            rw [h1] at l1
            simp only [td] at l1
            simp [trd, e1, l1]
          | some u =>
            rw [h1] at l1
            simp only [td] at l1 l2
            simp [trd, e1, e2, l1, l2]
    · obtain ⟨u1, h1⟩ : ∃ u, t1.sub p = some u := by
        cases h : t1.sub p with
        | none => exact absurd (.inl h) hs
        | some u => exact ⟨u, rfl⟩
      obtain ⟨u2, h2⟩ : ∃ u, t2.sub q = some u := by
        cases h : t2.sub q with
        | none => exact absurd (.inr h) hs
        | some u => exact ⟨u, rfl⟩
      rw [h1] at l1 o3
      rw [h2] at l2 o3
      rw [h1] at m1
      rw [h2] at m2
      simp only [td] at l1 l2 o3
      have o4 : fIf (fOrT (fT (fBin dIsN (fNw 7) (fC .non))) (fT (fBin dIsN (fNw 8) (fC .non)))) (fRaise "place") fNext (Sw ts i p j q (.im u1.d) (.im u2.d) .un) () = .nx (Sw ts i p j q (.im u1.d) (.im u2.d) .un) () := by
        simp [Sw]
      have c4 : fIf (fOrT (fT (fBin dIsN (fCall 2 m_L_part (aCons (fBin dItem (fNw 0) (fNw 4)) (aCons (fN 5) aNil))) (fC .non))) (fT (fBin dIsN (fCall 2 m_L_part (aCons (fBin dItem (fNw 0) (fNw 6)) (aCons (fN 7) aNil))) (fC .non)))) (fRet (fC (.str "place"))) fNext [.im (trd ts), .im (Cm.swap i p j q).d, .im (.int ts.length), .im (.str "swap"), .im (.int i), .im (pd p), .im (.int j), .im (pd q), .un] () =
          .nx [.im (trd ts), .im (Cm.swap i p j q).d, .im (.int ts.length), .im (.str "swap"), .im (.int i), .im (pd p), .im (.int j), .im (pd q), .un] () := by
        generalize m_L_part = f at l1 l2
        simp [trd, e1, e2, l1, l2]
      have ov : fAndT (fT (fBin dEq (fNw 3) (fNw 5))) (fOrT (fT (fBin dEq (fSl (fNw 4) oNo (oSome (fUn dLen (fNw 6)))) (fNw 6))) (fT (fBin dEq (fSl (fNw 6) oNo (oSome (fUn dLen (fNw 4)))) (fNw 4)))) (Sw ts i p j q (.im u1.d) (.im u2.d) .un) () = some (decide (i = j) && cutE p q, ()) := by
        by_cases hij : i = j <;> by_cases hc : p.take q.length = q <;> simp [Sw, pd, hij, cut_m, hc, cutE]
      have ovL : fAndT (fT (fBin dEq (fNw 4) (fNw 6))) (fOrT (fT (fBin dEq (fSl (fNw 5) oNo (oSome (fUn dLen (fNw 7)))) (fNw 7))) (fT (fBin dEq (fSl (fNw 7) oNo (oSome (fUn dLen (fNw 5)))) (fNw 5)))) [.im (trd ts), .im (Cm.swap i p j q).d, .im (.int ts.length), .im (.str "swap"), .im (.int i), .im (pd p), .im (.int j), .im (pd q), .un] () = some (decide (i = j) && cutE p q, ()) := by
        by_cases hij : i = j <;> by_cases hc : p.take q.length = q <;> simp [pd, hij, cut_m, hc, cutE]
      cases ho : decide (i = j) && cutE p q with
      | true =>
        rw [ho] at ov ovL
        have ho' : i = j ∧ (p.take q.length = q ∨ q.take p.length = p) := by simpa [cutE] using ho
        have ew : why ts (.swap i p j q) = "overlap" := by
          simp only [why]
          rw [if_neg hm, gi, gj]
          simp only [h1, h2]
          rw [if_pos ho']
        rw [ew]
        exact .inr ⟨by simp, runX_np ((seq_nx o1).trans ((seq_nx o2).trans ((seq_nx o3).trans ((seq_nx o4).trans (seq_np (s' := ()) ((if_t (s' := ()) ov).trans rfl)))))), w0 _ ((seq_nx c4).trans (seq_rt (s' := ()) ((if_t (s' := ()) ovL).trans rfl)))⟩
      | false =>
        rw [ho] at ov ovL
        have ho' : ¬ (i = j ∧ (p.take q.length = q ∨ q.take p.length = p)) := by
          intro z
          have : (decide (i = j) && cutE p q) = true := by simpa [cutE] using z
          rw [ho] at this
          cases this
        have SO : SwOk ts i p j q t1 t2 u1 u2 := ⟨hi, hj, gi, gj, h1, h2, hp, hq, fun e => by
          refine ⟨fun z => ho' ⟨e, .inr ?_⟩, fun z => ho' ⟨e, .inl ?_⟩⟩
          · exact (List.prefix_iff_eq_take.mp z).symm
          · exact (List.prefix_iff_eq_take.mp z).symm, fun t ht' => (ht.ok t ht').2, ht.tl⟩
        obtain ⟨a1, a2, a3, t3, a4, a5, a6, a7⟩ := SO.steps
        have LS := SO.L_swapped
        obtain ⟨a, b, ga, gb, za, zb⟩ := SO.out
        have sa := size_of_m 40 a za
        have sb := size_of_m 40 b zb
        have la := L_size_m za
        have lb := L_size_m zb
        have ea := at_trees hi ga
        have eb := at_trees hj gb
        have ew : why ts (.swap i p j q) = if 15 < a.size ∨ 15 < b.size then ("great" : Str) else "" := by
          simp only [why]
          rw [if_neg hm, gi, gj]
          simp only [h1, h2]
          rw [if_neg ho']
          simp [szI, ga, gb]
        have o5 : fIf (fAndT (fT (fBin dEq (fNw 3) (fNw 5))) (fOrT (fT (fBin dEq (fSl (fNw 4) oNo (oSome (fUn dLen (fNw 6)))) (fNw 6))) (fT (fBin dEq (fSl (fNw 6) oNo (oSome (fUn dLen (fNw 4)))) (fNw 4))))) (fRaise "overlap") fNext (Sw ts i p j q (.im u1.d) (.im u2.d) .un) () = .nx (Sw ts i p j q (.im u1.d) (.im u2.d) .un) () := (if_f (s' := ()) ov).trans rfl
        have o6 : fAsg (fCall 3 m_replaced (aCons (fN 0) (aCons (fN 3) (aCons (fCall 3 (m_put_at 20) (aCons (fBin dItem (fNw 0) (fNw 3)) (aCons (fN 4) (aCons (fN 8) aNil)))) aNil)))) (gN 9) (Sw ts i p j q (.im u1.d) (.im u2.d) .un) () = .nx (Sw ts i p j q (.im u1.d) (.im u2.d) (.im (trd (ts.set i.toNat (t1.put p u2))))) () := by
          generalize m_put_at 20 = f3 at a1
          generalize m_replaced = f2 at a3
          generalize ts.set i.toNat (t1.put p u2) = ms at a3
          simp only [trd] at a3
          simp [Sw, trd, e1, a1, a3]
        have o7 : fAsg (fCall 3 m_replaced (aCons (fN 9) (aCons (fN 5) (aCons (fCall 3 (m_put_at 20) (aCons (fBin dItem (fNw 9) (fNw 5)) (aCons (fN 6) (aCons (fN 7) aNil)))) aNil)))) (gN 9) (Sw ts i p j q (.im u1.d) (.im u2.d) (.im (trd (ts.set i.toNat (t1.put p u2))))) () = .nx (Sw ts i p j q (.im u1.d) (.im u2.d) (.im (trd (swp ts i t1 u1 p j u2 q)))) () := by
          generalize m_put_at 20 = f3 at a5
          generalize m_replaced = f2 at a7
          generalize ts.set i.toNat (t1.put p u2) = ms at a4 a7
          simp only [trd] at a7
          simp [Sw, trd, a4, a5, a7]
        have gt : fOrT (fT (fBin dGt (fCall 1 (m_size_of 40) (aCons (fBin dItem (fNw 9) (fNw 3)) aNil)) (fC (.int 15)))) (fT (fBin dGt (fCall 1 (m_size_of 40) (aCons (fBin dItem (fNw 9) (fNw 5)) aNil)) (fC (.int 15)))) (Sw ts i p j q (.im u1.d) (.im u2.d) (.im (trd (swp ts i t1 u1 p j u2 q)))) () = some (decide (15 < a.size) || decide (15 < b.size), ()) := by
          generalize m_size_of 40 = f at sa sb
          by_cases h15 : 15 < a.size
          · simp [Sw, trd, ea, eb, sa, sb, h15]
            omega
          · simp [Sw, trd, ea, eb, sa, sb, h15, show ¬ (15 : Int) < a.size by omega]
            omega
        have c6 : fAsg (fCall 2 m_L_swapped (aCons (fN 0) (aCons (fN 1) aNil))) (gN 8) [.im (trd ts), .im (Cm.swap i p j q).d, .im (.int ts.length), .im (.str "swap"), .im (.int i), .im (pd p), .im (.int j), .im (pd q), .un] () =
            .nx [.im (trd ts), .im (Cm.swap i p j q).d, .im (.int ts.length), .im (.str "swap"), .im (.int i), .im (pd p), .im (.int j), .im (pd q), .im (trd (swp ts i t1 u1 p j u2 q))] () := by
          generalize m_L_swapped = f at LS
          simp [LS]
        have c7 : fRet (fBin dItem (fLst (aCons (fC (.str "")) (aCons (fC (.str "great")) aNil))) (fUn dToInt (fBin dGt (fBin dMax2 (fCall 1 m_L_size (aCons (fBin dItem (fNw 8) (fNw 4)) aNil)) (fCall 1 m_L_size (aCons (fBin dItem (fNw 8) (fNw 6)) aNil))) (fC (.int 15))))) [.im (trd ts), .im (Cm.swap i p j q).d, .im (.int ts.length), .im (.str "swap"), .im (.int i), .im (pd p), .im (.int j), .im (pd q), .im (trd (swp ts i t1 u1 p j u2 q))] () =
            .rt (.str (if 15 < a.size ∨ 15 < b.size then ("great" : Str) else "")) () := by
          generalize m_L_size = f at la lb
          by_cases h15 : 15 < a.size ∨ 15 < b.size
          · have hm15 : (15 : Int) < (if a.size < b.size then (b.size : Int) else (a.size : Int)) := by split <;> omega
            simp [trd, ea, eb, la, lb, h15, hm15]
          · have hm15 : ¬ (15 : Int) < (if a.size < b.size then (b.size : Int) else (a.size : Int)) := by split <;> omega
            simp [trd, ea, eb, la, lb, h15, hm15]
        have wf : m_L_why_not [trd ts, (Cm.swap i p j q).d] = some (.str (if 15 < a.size ∨ 15 < b.size then ("great" : Str) else "")) := w0 _ ((seq_nx c4).trans ((seq_nx ((if_f (s' := ()) ovL).trans fNext_)).trans ((seq_nx c6).trans c7)))
        have pp : ∀ X, fSeq (fIf (fOrT (fT (fBin dGt (fCall 1 (m_size_of 40) (aCons (fBin dItem (fNw 9) (fNw 3)) aNil)) (fC (.int 15)))) (fT (fBin dGt (fCall 1 (m_size_of 40) (aCons (fBin dItem (fNw 9) (fNw 5)) aNil)) (fC (.int 15))))) (fRaise "great") fNext) (fRet (fN 9)) (Sw ts i p j q (.im u1.d) (.im u2.d) (.im (trd (swp ts i t1 u1 p j u2 q)))) () = X → F_swapped ([trd ts, (Cm.swap i p j q).d].map SV.im ++ List.replicate (10 - 2) SV.un) () = X := fun X h =>
          (seq_nx o1).trans ((seq_nx o2).trans ((seq_nx o3).trans ((seq_nx o4).trans ((seq_nx o5).trans ((seq_nx o6).trans ((seq_nx o7).trans h))))))
        by_cases h15 : 15 < a.size ∨ 15 < b.size
        · rw [if_pos h15] at ew wf
          rw [ew]
          refine .inr ⟨by simp, runX_np (pp _ (seq_np (s' := ()) ((if_t (s' := ()) (gt.trans ?_)).trans rfl))), wf⟩
          simp [h15]
        · rw [if_neg h15] at ew wf
          refine .inl ⟨ew, swp ts i t1 u1 p j u2 q, runX_rt (pp _ ((seq_nx (s' := ()) ((if_f (s' := ()) (gt.trans ?_)).trans fNext_)).trans (by simp [Sw]))), LS, ⟨?_, fun t hm' => ⟨?_, ?_⟩⟩, wf⟩
          · simp
            omega
          · unfold swp
            rw [List.length_set, List.length_set]
            exact ht.tl
          · have k1 := (ht.ok t1 (List.mem_of_getElem? gi)).1
            have k2 := (ht.ok t2 (List.mem_of_getElem? gj)).1
            have x1 := T.put_ok (p := p) k1 (T.sub_ok k2 h2)
            have all1 : ∀ z ∈ ts.set i.toNat (t1.put p u2), z.ok ar := fun z hz => (List.mem_or_eq_of_mem_set hz).elim (fun w => (ht.ok z w).1) fun w => w ▸ x1
            obtain ⟨t4, n1, n2, n3, _, _⟩ := SO.mid
            have x2 := T.put_ok (p := q) (all1 t4 (List.mem_of_getElem? n1)) (T.sub_ok k1 h1)
            unfold swp at hm'
            rw [n2] at hm'
            exact (List.mem_or_eq_of_mem_set hm').elim (all1 t) fun w => w ▸ x2
          · obtain ⟨k, hk⟩ := List.mem_iff_getElem?.mp hm'
            by_cases hkj : k = j.toNat
            · rw [hkj, gb] at hk
              cases hk
              omega
            · by_cases hki : k = i.toNat
              · rw [hki, ga] at hk
                cases hk
                omega
              · unfold swp at hk
                rw [List.getElem?_set_ne (fun z => hkj z.symm), List.getElem?_set_ne (fun z => hki z.symm)] at hk
                exact (ht.ok t (List.mem_of_getElem? hk)).2
end K7
end
section
set_option maxRecDepth 100000
/-! K76, plain law, part n: behind, both ways. -/
namespace K7
open PySem L2
theorem fRetR0_ {ρ : List SV} {s : Unit} {fa : EF Unit} {n : Nat} {m : List D → Unit → Option (Res × Unit)} {fs : AF Unit} : fRetR (Sub.id W0) fa n m fs ρ s = (match fa ρ s with
  | some (d0, s0) => (match fs ρ s0 with
    | some (ds, s1) => if ds.length = n then (match m ds s1 with
        | some (.inl d, s2) => .rt (.tup [d0, d]) s2
        | some (.inr y, s2) => .np y s2
        | none => .no) else .no
    | none => .no)
  | none => .no) := by
  show fRetR (Sub.id W0) fa n m fs ρ s = _
  unfold fRetR
  cases h : fa ρ s with
  | none => rfl
  | some p =>
    obtain ⟨d0, s0⟩ := p
    simp only
    cases h2 : fs ρ s0 with
    | none => rfl
    | some p =>
      obtain ⟨ds, s1⟩ := p
      simp only
      by_cases hn : ds.length = n
      · rw [if_pos hn, if_pos hn]
        cases h3 : m ds s1 with
        | none =>
          have h3' : m ds ((Sub.id W0).get s1) = none := h3
          rw [h3']
        | some p =>
          obtain ⟨r, s2⟩ := p
          have h3' : m ds ((Sub.id W0).get s1) = some (r, s2) := h3
          rw [h3']
          cases r <;> rfl
      · rw [if_neg hn, if_neg hn]
def bSw : SF Unit := fRetR (Sub.id W0) (fN 2) 2 m_swapped (aCons (fN 3) (aCons (fN 1) aNil))
def bSwG (m : List D → Unit → Option (Res × Unit)) : SF Unit := fRetR (Sub.id W0) (fN 2) 2 m (aCons (fN 3) (aCons (fN 1) aNil))
def resO (d0 : D) : Res → Out Unit
  | .inl d => .rt (.tup [d0, d]) ()
  | .inr y => .np y ()
theorem bSw_of {ρ : List SV} {d0 d1 d3 : D} {o : Res} (h2 : ρ[2]? = some (.im d0)) (h3 : ρ[3]? = some (.im d3)) (h1 : ρ[1]? = some (.im d1)) (e : m_swapped [d3, d1] () = some (o, ())) : bSw ρ () = resO d0 o := by
  have key : ∀ m : List D → Unit → Option (Res × Unit), m [d3, d1] () = some (o, ()) → bSwG m ρ () = resO d0 o := by
    intro m e
    have := fRetR0_ (ρ := ρ) (s := ()) (fa := fN 2) (n := 2) (m := m) (fs := aCons (fN 3) (aCons (fN 1) aNil))
    refine Eq.trans this ?_
    simp [h1, h2, h3, e]
    cases o <;> rfl
  exact key m_swapped e
/-- the slots of behind, the command's word told -/
def Bs (A : Au) (ts : List T) (c : D) : List SV := [.im (.tup [A.d, trd ts]), .im c, .im A.d, .im (trd ts), .im (pd A.ar), .im (.tup (A.good.map D.bl)), .im (.tup (A.st.map En.d)), .un]
def bTail : SF Unit := fSeq (fIf (fT (fBin dEq (fBin dItem (fNw 1) (fC (.int 0))) (fC (.str "step")))) (fSeq (fAsg (fCall 3 m_entry_with (aCons (fBin dItem (fNw 6) (fBin dItem (fNw 1) (fC (.int 1)))) (aCons (fBin dItem (fNw 1) (fC (.int 2))) (aCons (fBin dItem (fNw 1) (fC (.int 3))) aNil)))) (gN 7)) (fRet (fTup (aCons (fTup (aCons (fN 4) (aCons (fN 5) (aCons (fCall 3 m_replaced (aCons (fN 6) (aCons (fBin dItem (fNw 1) (fC (.int 1))) (aCons (fN 7) aNil)))) aNil)))) (aCons (fN 3) aNil))))) fNext) (fSeq (fIf (fT (fBin dEq (fBin dItem (fNw 1) (fC (.int 0))) (fC (.str "good")))) (fRet (fTup (aCons (fTup (aCons (fN 4) (aCons (fCall 3 m_replaced (aCons (fN 5) (aCons (fBin dItem (fNw 1) (fC (.int 1))) (aCons (fBin dItem (fNw 1) (fC (.int 2))) aNil)))) (aCons (fN 6) aNil)))) (aCons (fN 3) aNil)))) fNext) (fSeq (fIf (fT (fBin dEq (fBin dItem (fNw 1) (fC (.int 0))) (fC (.str "put")))) (fSeq (fIf (fT (fBin dGe (fUn dLen (fNw 3)) (fC (.int 12)))) (fRaise "many") fNext) (fRet (fTup (aCons (fN 2) (aCons (fBin dAdd (fNw 3) (fTup (aCons (fBin dItem (fNw 1) (fC (.int 1))) aNil))) aNil))))) fNext) (fSeq (fIf (fT (fBin dEq (fBin dItem (fNw 1) (fC (.int 0))) (fC (.str "swap")))) bSw fNext) (fSeq (fIf (fT (fBin dGe (fBin dItem (fNw 1) (fC (.int 1))) (fUn dLen (fNw 3)))) (fRaise "missing") fNext) (fRet (fTup (aCons (fN 2) (aCons (fBin dAdd (fSl (fNw 3) oNo (oSome (fBin dItem (fNw 1) (fC (.int 1))))) (fSl (fNw 3) (oSome (fBin dAdd (fBin dItem (fNw 1) (fC (.int 1))) (fC (.int 1)))) oNo)) aNil))))))))
theorem b_start {A : Au} {ts : List T} {c : D} {X : Out Unit} (h : bTail (Bs A ts c) () = X) : F_behind ([.tup [A.d, trd ts], c].map SV.im ++ List.replicate (8 - 2) SV.un) () = X := by
  refine (seq_nx (ρ' := [.im (.tup [A.d, trd ts]), .im c, .im A.d, .im (trd ts), .un, .un, .un, .un]) (s' := ()) (by simp)).trans ?_
  exact (seq_nx (ρ' := Bs A ts c) (s' := ()) (by simp [Bs, Au.d])).trans h
theorem behind_m {A : Au} {ts : List T} {c : Cm} (hA : A.ok) (ht : TsOk A.ar ts) (hc : c.ok A.ar A.n) :
    (∃ (A' : Au) (ts' : List T), m_behind [.tup [A.d, trd ts], c.d] () = some (.inl (.tup [A'.d, trd ts']), ()) ∧ m_L_behind [A.d, trd ts, c.d] = some (.tup [A'.d, trd ts']) ∧ m_L_why_not [trd ts, c.d] = some (.str "") ∧ A'.ok ∧ A'.ar = A.ar ∧ A'.n = A.n ∧ TsOk A.ar ts') ∨
    (∃ y : Str, y ≠ "" ∧ m_behind [.tup [A.d, trd ts], c.d] () = some (.inr y, ()) ∧ m_L_why_not [trd ts, c.d] = some (.str y)) := by
  have htl := ht.tl
  cases c with
  | put t =>
    by_cases h : 12 ≤ ts.length
    · refine .inr ⟨"many", by simp, runX_np (b_start (X := .np "many" ()) ?_), ?_⟩
      · simp [bTail, Bs, Cm.d, trd, show (12 : Int) ≤ ts.length by omega]
      · simp [m_L_why_not, runP, F_L_why_not, Cm.d, trd, show (12 : Int) ≤ ts.length by omega]
    · refine .inl ⟨A, ts ++ [t], runX_rt (b_start (X := .rt (.tup [A.d, trd (ts ++ [t])]) ()) ?_), ?_, ?_, hA, rfl, rfl, ⟨by simp; omega, fun u hu => ?_⟩⟩
      · simp [bTail, Bs, Cm.d, trd, show ¬ (12 : Int) ≤ ts.length by omega, show ts.length ≤ 99999 by omega]
      · refine run_rt ?_
        refine (seq_nx (ρ' := [.im A.d, .im (trd ts), .im (Cm.put t).d, .im (pd A.ar), .im (.tup (A.good.map D.bl)), .im (.tup (A.st.map En.d)), .un]) (s' := ()) (by simp [Au.d])).trans ?_
        refine seq_rt (s' := ()) ?_
        simp [Cm.d, trd, show ts.length ≤ 99999 by omega]
      · simp [m_L_why_not, runP, F_L_why_not, Cm.d, trd, show ¬ (12 : Int) ≤ ts.length by omega]
      · rcases List.mem_append.mp hu with hu | hu
        · exact ht.ok u hu
        · simp at hu
          subst hu
          exact hc
  | take i =>
    by_cases h : (ts.length : Int) ≤ i
    · refine .inr ⟨"missing", by simp, runX_np (b_start (X := .np "missing" ()) ?_), ?_⟩
      · simp [bTail, Bs, Cm.d, trd, h]
      · simp [m_L_why_not, runP, F_L_why_not, Cm.d, trd, h]
    · have h0 := hc.1
      have e1 : (i + 1).toNat = i.toNat + 1 := by omega
      have hz : min i.toNat ts.length + (ts.length - (i.toNat + 1)) ≤ 100000 := by omega
      refine .inl ⟨A, ts.take i.toNat ++ ts.drop (i.toNat + 1), runX_rt (b_start (X := .rt (.tup [A.d, trd (ts.take i.toNat ++ ts.drop (i.toNat + 1))]) ()) ?_), ?_, ?_, hA, rfl, rfl, ⟨by simp; omega, fun u hu => ?_⟩⟩
      · simp [bTail, Bs, Cm.d, trd, h, h0, show (0 : Int) ≤ i + 1 by omega, e1, hz]
      · refine run_rt ?_
        refine (seq_nx (ρ' := [.im A.d, .im (trd ts), .im (Cm.take i).d, .im (pd A.ar), .im (.tup (A.good.map D.bl)), .im (.tup (A.st.map En.d)), .un]) (s' := ()) (by simp [Au.d])).trans ?_
        refine (seq_nx (ρ' := [.im A.d, .im (trd ts), .im (Cm.take i).d, .im (pd A.ar), .im (.tup (A.good.map D.bl)), .im (.tup (A.st.map En.d)), .un]) (s' := ()) (by simp [Cm.d])).trans ?_
        refine seq_rt (s' := ()) ?_
        simp [Cm.d, trd, h0, show (0 : Int) ≤ i + 1 by omega, e1, hz]
      · simp [m_L_why_not, runP, F_L_why_not, Cm.d, trd, h]
      · rcases List.mem_append.mp hu with hu | hu
        · exact ht.ok u (List.mem_of_mem_take hu)
        · exact ht.ok u (List.mem_of_mem_drop hu)
  | swap i p j q =>
    obtain ⟨h1, h2, h3, h4, h5, h6, h7, h8⟩ := hc
    rcases swapped_m ht h1 h3 h5 h7 with ⟨_, ts', g1, g2, g3, g4⟩ | ⟨g1, g2, g3⟩
    · refine .inl ⟨A, ts', runX_rt (b_start (X := .rt (.tup [A.d, trd ts']) ()) ?_), ?_, g4, hA, rfl, rfl, g3⟩
      · have eb := bSw_of (ρ := Bs A ts (Cm.swap i p j q).d) rfl rfl rfl g1
        simp only [Bs, Cm.d, resO] at eb
        simp [bTail, Bs, Cm.d, eb]
      · refine run_rt ?_
        refine (seq_nx (ρ' := [.im A.d, .im (trd ts), .im (Cm.swap i p j q).d, .im (pd A.ar), .im (.tup (A.good.map D.bl)), .im (.tup (A.st.map En.d)), .un]) (s' := ()) (by simp [Au.d])).trans ?_
        refine (seq_nx (ρ' := [.im A.d, .im (trd ts), .im (Cm.swap i p j q).d, .im (pd A.ar), .im (.tup (A.good.map D.bl)), .im (.tup (A.st.map En.d)), .un]) (s' := ()) (by simp [Cm.d])).trans ?_
        refine (seq_nx (ρ' := [.im A.d, .im (trd ts), .im (Cm.swap i p j q).d, .im (pd A.ar), .im (.tup (A.good.map D.bl)), .im (.tup (A.st.map En.d)), .un]) (s' := ()) (by simp [Cm.d])).trans ?_
        refine seq_rt (s' := ()) ?_
        generalize m_L_swapped = f at g2
        simp [Cm.d] at g2
        simp [Cm.d, g2]
    · refine .inr ⟨_, g1, runX_np (b_start (X := .np (why ts (.swap i p j q)) ()) ?_), g3⟩
      have eb := bSw_of (ρ := Bs A ts (Cm.swap i p j q).d) rfl rfl rfl g2
      simp only [Bs, Cm.d, resO] at eb
      simp [bTail, Bs, Cm.d, eb]
  | good q b =>
    have hq : InR A.n q := hc
    have hgl : A.good.length = A.n := rfl
    have h2 := hq.2
    have hn := hA.gl
    have er := replaced_m (xs := A.good.map D.bl) (v := .bl b) hq.1 (by rw [List.length_map, hgl]; exact h2) (by rw [List.length_map]; omega)
    rw [← List.map_set] at er
    have hl : (A.good.set q.toNat b).length = A.good.length := List.length_set
    generalize hgs : A.good.set q.toNat b = gs at er hl
    refine .inl ⟨⟨A.ar, gs, A.st⟩, ts, runX_rt (b_start (X := .rt (.tup [(⟨A.ar, gs, A.st⟩ : Au).d, trd ts]) ()) ?_), ?_, ?_, ?_, rfl, hl, ht⟩
    · unfold bTail
      generalize m_replaced = f at er ⊢
      simp [Bs, Cm.d, er, Au.d]
    · refine run_rt ?_
      refine (seq_nx (ρ' := [.im A.d, .im (trd ts), .im (Cm.good q b).d, .im (pd A.ar), .im (.tup (A.good.map D.bl)), .im (.tup (A.st.map En.d)), .un]) (s' := ()) (by simp [Au.d])).trans ?_
      refine (seq_nx (ρ' := [.im A.d, .im (trd ts), .im (Cm.good q b).d, .im (pd A.ar), .im (.tup (A.good.map D.bl)), .im (.tup (A.st.map En.d)), .un]) (s' := ()) (by simp [Cm.d])).trans ?_
      refine (seq_nx (ρ' := [.im A.d, .im (trd ts), .im (Cm.good q b).d, .im (pd A.ar), .im (.tup (A.good.map D.bl)), .im (.tup (A.st.map En.d)), .un]) (s' := ()) (by simp [Cm.d])).trans ?_
      refine (seq_nx (ρ' := [.im A.d, .im (trd ts), .im (Cm.good q b).d, .im (pd A.ar), .im (.tup (A.good.map D.bl)), .im (.tup (A.st.map En.d)), .un]) (s' := ()) (by simp [Cm.d])).trans ?_
      refine seq_rt (s' := ()) ?_
      rw [L_replaced_eq]
      generalize m_replaced = f at er ⊢
      simp [Cm.d, er, Au.d]
    · simp [m_L_why_not, runP, F_L_why_not, Cm.d, trd]
    · have hn' : (⟨A.ar, gs, A.st⟩ : Au).n = A.n := hl
      exact ⟨hA.al, by rw [hn']; exact hA.gl, hA.sl, by rw [hn']; exact hA.en⟩
  | step s row q =>
    obtain ⟨h1, h2, h3, h4⟩ := hc
    have hn := hA.gl
    have hal := hA.al
    have hsl := hA.sl
    have hl : s.toNat < A.st.length := by
      rw [hA.sl]
      exact (List.getElem?_eq_some_iff.mp h2).1
    have he := List.getElem?_eq_getElem hl
    have ok := hA.en _ _ _ h2 he
    generalize A.st[s.toNat] = e at he ok
    have ea : atI (A.st.map En.d) s = some e.d := by
      rw [atI_nn h1, List.getElem?_map, he]
      rfl
    obtain ⟨x1, x2⟩ := entry_m (by omega) ok h3 (q := q)
    have er := replaced_m (xs := A.st.map En.d) (v := (e.upd row q).d) h1 (by rw [List.length_map]; omega) (by rw [List.length_map]; omega)
    rw [← List.map_set] at er
    have hl2 : (A.st.set s.toNat (e.upd row q)).length = A.st.length := List.length_set
    have hen : ∀ (i : Nat) a e', A.ar[i]? = some a → (A.st.set s.toNat (e.upd row q))[i]? = some e' → e'.ok A.n a := by
      intro i a e' ha' he'
      by_cases hi : s.toNat = i
      · subst hi
        rw [List.getElem?_set_self hl] at he'
        cases he'
        rw [h2] at ha'
        cases ha'
        exact upd_ok ok h3 h4
      · rw [List.getElem?_set_ne hi] at he'
        exact hA.en i a e' ha' he'
    generalize A.st.set s.toNat (e.upd row q) = ss at er hl2 hen
    refine .inl ⟨⟨A.ar, A.good, ss⟩, ts, runX_rt (b_start (X := .rt (.tup [(⟨A.ar, A.good, ss⟩ : Au).d, trd ts]) ()) ?_), ?_, ?_, ⟨hA.al, hA.gl, hl2.trans hA.sl, hen⟩, rfl, rfl, ht⟩
    · unfold bTail
      generalize m_replaced = f at er ⊢
      generalize m_entry_with = f2 at x1 ⊢
      simp [pd] at x1
      refine seq_rt (s' := ()) ?_
      simp [Bs, Cm.d, ea, pd, x1, er, Au.d]
    · refine run_rt ?_
      refine (seq_nx (ρ' := [.im A.d, .im (trd ts), .im (Cm.step s row q).d, .im (pd A.ar), .im (.tup (A.good.map D.bl)), .im (.tup (A.st.map En.d)), .un]) (s' := ()) (by simp [Au.d])).trans ?_
      refine (seq_nx (ρ' := [.im A.d, .im (trd ts), .im (Cm.step s row q).d, .im (pd A.ar), .im (.tup (A.good.map D.bl)), .im (.tup (A.st.map En.d)), .un]) (s' := ()) (by simp [Cm.d])).trans ?_
      refine (seq_nx (ρ' := [.im A.d, .im (trd ts), .im (Cm.step s row q).d, .im (pd A.ar), .im (.tup (A.good.map D.bl)), .im (.tup (A.st.map En.d)), .un]) (s' := ()) (by simp [Cm.d])).trans ?_
      refine (seq_nx (ρ' := [.im A.d, .im (trd ts), .im (Cm.step s row q).d, .im (pd A.ar), .im (.tup (A.good.map D.bl)), .im (.tup (A.st.map En.d)), .un]) (s' := ()) (by simp [Cm.d])).trans ?_
      refine (seq_nx (ρ' := [.im A.d, .im (trd ts), .im (Cm.step s row q).d, .im (pd A.ar), .im (.tup (A.good.map D.bl)), .im (.tup (A.st.map En.d)), .un]) (s' := ()) (by simp [Cm.d])).trans ?_
      rw [L_replaced_eq]
      generalize m_replaced = f at er ⊢
      generalize m_L_entry = f2 at x2 ⊢
      simp [pd] at x2
      simp [Cm.d, ea, pd, x2, er, Au.d]
    · simp [m_L_why_not, runP, F_L_why_not, Cm.d, trd]
end K7
end
section
set_option maxRecDepth 100000
/-! K76, plain law, part o: the garden. -/
namespace K7
open PySem L2
theorem isH_h {a : Addr} : isH a (.h a) = true := by simp [isH]
@[simp] theorem fGl_ {ω : GO} {fa : EF GS} {ρ : List SV} {s : GS} : fGl ω fa ρ s = (fa ρ s).bind fun p => if isH ω.pg p.1 = true then p.2.1.getLast?.map fun d => (d, p.2) else none := rfl
@[simp] theorem fGf_ {ω : GO} {fa : EF GS} {ρ : List SV} {s : GS} : fGf ω fa ρ s = (fa ρ s).bind fun p => if isH ω.pg p.1 = true then some (ω.first, p.2) else none := rfl
@[simp] theorem fGc_ {ω : GO} {fa : EF GS} {ρ : List SV} {s : GS} : fGc ω fa ρ s = (fa ρ s).bind fun p => if isH ω.pg p.1 = true then some (.tup p.2.2, p.2) else none := rfl
@[simp] theorem fGp_ {ω : GO} {fa fe : EF GS} {ρ : List SV} {s : GS} : fGp ω fa fe ρ s = (match fa ρ s with | some (p, s1) => if isH ω.pg p = true then (match fe ρ s1 with | some (d, s2) => if s2.1.length < 100000 then .nx ρ (s2.1 ++ [d], s2.2) else .no | none => .no) else .no | none => .no) := rfl
@[simp] theorem fGs_ {ω : GO} {fa fe : EF GS} {ρ : List SV} {s : GS} : fGs ω fa fe ρ s = (match fe ρ s with | some (.tup ds, s1) => (match fa ρ s1 with | some (p, s2) => if isH ω.pg p = true then .nx ρ (s2.1, ds) else .no | none => .no) | _ => .no) := rfl
@[simp] theorem isHt {ω : GO} : isH ω.pg (.h ω.pg) = true := isH_h
section
variable {ω : GO} {A : Au} {ts : List T} {s : GS} (hl : s.1.getLast? = some (.tup [A.d, trd ts]))
include hl
theorem G_automaton_m : m_G_automaton ω [.h ω.pg] s = some (A.d, s) := by
  simp [m_G_automaton, runW, F_G_automaton, hl]
theorem G_trees_m : m_G_trees ω [.h ω.pg] s = some (trd ts, s) := by
  simp [m_G_trees, runW, F_G_trees, hl]
omit hl in
theorem G_journal_m : m_G_journal ω [.h ω.pg] s = some (.tup s.2, s) := by
  simp [m_G_journal, runW, F_G_journal]
omit hl in
theorem states_in_m (hA : A.ok) (ht : TsOk A.ar ts) : m_states_in [.tup [A.d, trd ts]] = some (pd (ts.map (evl A))) ∧ m_L_states [A.d, trd ts] = some (pd (ts.map (evl A))) := by
  have htl := ht.tl
  have el := lc_map (S := Unit) (s := ()) (ρ := [.im (.tup [A.d, .tup (ts.map T.d)]), .im A.d, .im (.tup (ts.map T.d)), .un]) (gf := gN 3) (fe := fCall 2 (m_state_of 20) (aCons (fN 1) (aCons (fN 3) aNil))) (enc := T.d) (g := fun t => D.int (evl A t)) (xs := ts) fun t h => ⟨_, rfl, by
    have := (state_of_m hA 20 t (by have := (ht.ok t h).2; omega) (ht.ok t h).1).2
    simp [this]⟩
  have el2 := lc_map (S := Unit) (s := ()) (ρ := [.im A.d, .im (.tup (ts.map T.d)), .un]) (gf := gN 2) (fe := fCall 2 (m_L_state 20) (aCons (fN 0) (aCons (fN 2) aNil))) (enc := T.d) (g := fun t => D.int (evl A t)) (xs := ts) fun t h => ⟨_, rfl, by
    have := (state_of_m hA 20 t (by have := (ht.ok t h).2; omega) (ht.ok t h).1).2
    rw [← L_state_eq] at this
    simp [this]⟩
  exact ⟨by simp [m_states_in, runP, F_states_in, trd, show ts.length ≤ 100000 by omega, el, pd, Function.comp_def], by simp [m_L_states, runP, F_L_states, trd, show ts.length ≤ 100000 by omega, el2, pd, Function.comp_def]⟩
theorem G_states_m (hA : A.ok) (ht : TsOk A.ar ts) : m_G_states ω [.h ω.pg] s = some (pd (ts.map (evl A)), s) := by
  have e := (states_in_m hA ht).1
  simp [m_G_states, runW, F_G_states, hl, e]
end
theorem mapIdx_range (xs : List D) : xs.mapIdx (fun (i : Nat) d => D.tup [.int i, d]) = (List.range xs.length).map fun i : Nat => D.tup [.int (i : Int), xs.getD i .non] := by
  apply List.ext_getElem?
  intro i
  rw [List.getElem?_mapIdx, List.getElem?_map]
  by_cases h : i < xs.length
  · rw [List.getElem?_eq_getElem h, List.getElem?_range h]
    simp [List.getD_eq_getElem?_getD, List.getElem?_eq_getElem h]
  · rw [List.getElem?_eq_none (by omega), List.getElem?_eq_none (by simpa using h)]
    rfl
theorem acons_of {S : Type} {fa : EF S} {fr : AF S} {ρ : List SV} {s s1 s2 : S} {d : D} {ds : List D} (h1 : fa ρ s = some (d, s1)) (h2 : fr ρ s1 = some (ds, s2)) : aCons fa fr ρ s = some (d :: ds, s2) := by simp [h1, h2]
theorem runW_rt {S : Type} {n : Nat} {f : SF S} {xs : List D} {s s' : S} {d : D} (h : f (xs.map SV.im ++ List.replicate (n - xs.length) SV.un) s = .rt d s') : runW n f xs s = some (d, s') := by
  unfold runW
  rw [h]
def gM (ω : GO) (n : Nat) (m : List D → GS → Option (D × GS)) (fo : EF GS) (fs : AF GS) : EF GS := fMeth (Sub.id (GW ω)) n m fo fs
theorem gM_of {ω : GO} {n : Nat} {m : List D → GS → Option (D × GS)} {fo : EF GS} {fs : AF GS} {ρ : List SV} {s s' : GS} {d : D} {ds : List D} (h1 : fo ρ s = some (.h ω.pg, s)) (h2 : fs ρ s = some (ds, s)) (hn : ds.length + 1 = n) (h3 : m (.h ω.pg :: ds) s = some (d, s')) : gM ω n m fo fs ρ s = some (d, s') := by
  show (fo ρ s).bind _ = _
  rw [h1]
  show (if isH ω.pg (.h ω.pg) = true then _ else _) = _
  rw [if_pos isHt]
  show (fs ρ s).bind _ = _
  rw [h2]
  show (if ds.length + 1 = n then _ else _) = _
  rw [if_pos hn]
  show (m _ s).map _ = _
  rw [h3]
  rfl
/-- which of the numbers pass -/
def nums (n : Nat) (p : Nat → Bool) : D := .tup (((List.range n).filter p).map fun i : Nat => D.int (i : Int))
def goodAt (A : Au) (ts : List T) (i : Nat) : Bool := match (ts.map (evl A))[i]? with
  | some q => goodB A q
  | none => false
def liB (A : Au) (k : Nat) (t : T) : Bool := match m_let_in [A.d, .int (k + 1 : Nat), t.d] with
  | some (.bl b) => b
  | _ => false
def liAt (A : Au) (k : Nat) (ts : List T) (i : Nat) : Bool := match ts[i]? with
  | some t => liB A k t
  | none => false
theorem liB_m {A : Au} (hA : A.ok) {k : Nat} (hk : k < 19) {t : T} (ho : t.ok A.ar) (hz : t.size ≤ 15) : m_let_in [A.d, .int (k + 1 : Nat), t.d] = some (.bl (liB A k t)) ∧ m_L_let_in [A.d, .int (k + 1 : Nat), t.d] = some (.bl (liB A k t)) := by
  obtain ⟨b, h1, h2⟩ := let_in_same hA hk ho hz
  have e : liB A k t = b := by
    unfold liB
    rw [h1]
  rw [e]
  exact ⟨h1, h2⟩
section
variable {ω : GO} {A : Au} {ts : List T} {s : GS} (hl : s.1.getLast? = some (.tup [A.d, trd ts])) (hA : A.ok) (ht : TsOk A.ar ts)
include hl hA ht
theorem evl_inr {i : Nat} (h : i < ts.length) : ∃ q, (ts.map (evl A))[i]? = some q ∧ InR A.n q := by
  have e := List.getElem?_eq_getElem h
  refine ⟨evl A ts[i], by rw [List.getElem?_map, e]; rfl, ?_⟩
  obtain ⟨h1, h2⟩ := ht.ok _ (List.getElem_mem h)
  exact (state_of_m hA 20 _ (by omega) h1).1
theorem G_good_m : m_G_good ω [.h ω.pg] s = some (nums ts.length (goodAt A ts), s) := by
  have htl := ht.tl
  have es := G_states_m (ω := ω) hl hA ht
  have ea := G_automaton_m (ω := ω) hl
  have e0 : gM ω 1 (m_G_states ω) (fN 0) aNil [.im (.h ω.pg), .un, .un] s = some (pd (ts.map (evl A)), s) := gM_of (by simp) aNil_ rfl es
  have el := lc_filter (S := GS) (s := s) (ρ := [.im (.h ω.pg), .un, .un]) (gf := gT 2 (gsCons 1 (gsCons 2 gsNil))) (ft := fTru (fBin dItem (fBin dItem (gM ω 1 (m_G_automaton ω) (fN 0) aNil) (fC (.int 1))) (fNw 2))) (fe := fN 1)
    (enc := fun i : Nat => D.tup [.int (i : Int), ((ts.map (evl A)).map D.int).getD i .non]) (g := fun i : Nat => D.int (i : Int)) (p := goodAt A ts) (xs := List.range ts.length) fun i hi => by
      have hi' : i < ts.length := List.mem_range.mp hi
      obtain ⟨q, hq, hr⟩ := evl_inr hl hA ht hi'
      refine ⟨[.im (.h ω.pg), .im (.int (i : Int)), .im (.int q)], ?_, ?_, by simp⟩
      · have : ((ts.map (evl A)).map D.int).getD i .non = .int q := by rw [List.getD_eq_getElem?_getD, List.getElem?_map, hq]; rfl
        rw [this]
        simp
      · have eg := good_at hr
        have e1 : gM ω 1 (m_G_automaton ω) (fN 0) aNil [.im (.h ω.pg), .im (.int (i : Int)), .im (.int q)] s = some (A.d, s) := gM_of (by simp) aNil_ rfl ea
        have e2 : goodAt A ts i = goodB A q := by
          unfold goodAt
          rw [hq]
        rw [e2, fTru_, fBin_, fBin_, e1]
        simp [Au.d, eg]
  have ei : sEnum (gM ω 1 (m_G_states ω) (fN 0) aNil) [.im (.h ω.pg), .un, .un] s = some ((List.range ts.length).map fun i : Nat => D.tup [.int (i : Int), ((ts.map (evl A)).map D.int).getD i .non], s) := by
    rw [sEnum_, e0]
    have := mapIdx_range ((ts.map (evl A)).map D.int)
    rw [List.length_map, List.length_map] at this
    rw [← this]
    rfl
  have ef : F_G_good ω [.im (.h ω.pg), .un, .un] s = .rt (nums ts.length (goodAt A ts)) s := by
    show fRet (fUn dTuple (fLc (sEnum (gM ω 1 (m_G_states ω) (fN 0) aNil)) (gT 2 (gsCons 1 (gsCons 2 gsNil))) (fTru (fBin dItem (fBin dItem (gM ω 1 (m_G_automaton ω) (fN 0) aNil) (fC (.int 1))) (fNw 2))) (fN 1) [1, 2])) _ _ = _
    rw [fRet_, fUn_, fLc_]
    have ew : wipeS [SV.im (.h ω.pg), .un, .un] [1, 2] = [SV.im (.h ω.pg), .un, .un] := rfl
    rw [ew, ei]
    have el' := el
    simp at el'
    simp [show ts.length ≤ 100000 by omega, el', nums]
  exact runW_rt (n := 3) (f := F_G_good ω) (xs := [.h ω.pg]) ef
theorem G_let_in_m {k : Nat} (hk : k < 12) : m_G_let_in ω [.h ω.pg, .int (k + 1 : Nat)] s = some (nums ts.length (liAt A k ts), s) := by
  have htl := ht.tl
  have et := G_trees_m (ω := ω) hl
  have ea := G_automaton_m (ω := ω) hl
  have e0 : gM ω 1 (m_G_trees ω) (fN 0) aNil [.im (.h ω.pg), .im (.int (k + 1 : Nat)), .un, .un] s = some (trd ts, s) := gM_of (by simp) aNil_ rfl et
  have el := lc_filter (S := GS) (s := s) (ρ := [.im (.h ω.pg), .im (.int (k + 1 : Nat)), .un, .un]) (gf := gT 2 (gsCons 2 (gsCons 3 gsNil))) (ft := fTru (fCall 3 m_let_in (aCons (gM ω 1 (m_G_automaton ω) (fN 0) aNil) (aCons (fN 1) (aCons (fN 3) aNil))))) (fe := fN 2)
    (enc := fun i : Nat => D.tup [.int (i : Int), (ts.map T.d).getD i .non]) (g := fun i : Nat => D.int (i : Int)) (p := liAt A k ts) (xs := List.range ts.length) fun i hi => by
      have hi' : i < ts.length := List.mem_range.mp hi
      have e := List.getElem?_eq_getElem hi'
      obtain ⟨h1, h2⟩ := ht.ok _ (List.getElem_mem hi')
      generalize ts[i] = t at e h1 h2
      have em := (liB_m hA (show k < 19 by omega) h1 h2).1
      refine ⟨[.im (.h ω.pg), .im (.int (k + 1 : Nat)), .im (.int (i : Int)), .im t.d], ?_, ?_, by simp⟩
      · have : (ts.map T.d).getD i .non = t.d := by rw [List.getD_eq_getElem?_getD, List.getElem?_map, e]; rfl
        rw [this]
        simp
      · have e1 : gM ω 1 (m_G_automaton ω) (fN 0) aNil [.im (.h ω.pg), .im (.int (k + 1 : Nat)), .im (.int (i : Int)), .im t.d] s = some (A.d, s) := gM_of (by simp) aNil_ rfl ea
        have e2 : liAt A k ts i = liB A k t := by
          unfold liAt
          rw [e]
        rw [e2, fTru_, call_of (n := 3) (xs := [A.d, .int (k + 1 : Nat), t.d]) (s' := s) (acons_of e1 (by simp)) rfl em]
        rfl
  have ei : sEnum (gM ω 1 (m_G_trees ω) (fN 0) aNil) [.im (.h ω.pg), .im (.int (k + 1 : Nat)), .un, .un] s = some ((List.range ts.length).map fun i : Nat => D.tup [.int (i : Int), (ts.map T.d).getD i .non], s) := by
    rw [sEnum_, e0]
    have := mapIdx_range (ts.map T.d)
    rw [List.length_map] at this
    rw [← this]
    rfl
  have ef : F_G_let_in ω [.im (.h ω.pg), .im (.int (k + 1 : Nat)), .un, .un] s = .rt (nums ts.length (liAt A k ts)) s := by
    show fSeq (fDrop (fCall 2 m_check_depth (aCons (fN 1) (aCons (fC (.int 12)) aNil)))) (fRet (fUn dTuple (fLc (sEnum (gM ω 1 (m_G_trees ω) (fN 0) aNil)) (gT 2 (gsCons 2 (gsCons 3 gsNil))) (fTru (fCall 3 m_let_in (aCons (gM ω 1 (m_G_automaton ω) (fN 0) aNil) (aCons (fN 1) (aCons (fN 3) aNil))))) (fN 2) [2, 3]))) _ _ = _
    refine (seq_nx (ρ' := [.im (.h ω.pg), .im (.int (k + 1 : Nat)), .un, .un]) (s' := s) ?_).trans ?_
    · have : m_check_depth [.int (k + 1 : Nat), .int 12] = some .non := by
        simp [m_check_depth, runP, F_check_depth, show (1 : Int) ≤ (k : Int) + 1 by omega, show (k : Int) + 1 ≤ 12 by omega]
      rw [fDrop_, call_of (n := 2) (xs := [.int (k + 1 : Nat), .int 12]) (s' := s) (by simp) rfl this]
    · rw [fRet_, fUn_, fLc_, ei]
      have el' := el
      simp at el'
      simp [show ts.length ≤ 100000 by omega, el', nums]
  exact runW_rt (n := 4) (f := F_G_let_in ω) (xs := [.h ω.pg, .int (k + 1 : Nat)]) ef
end
end K7
end
section
set_option maxRecDepth 100000
/-! K76, plain law, part p: act, _law_told. -/
namespace K7
open PySem L2
def aSetG (ω : GO) (m : List D → Unit → Option (Res × Unit)) : SF GS := fSetR (Sub.none (GW ω)) 2 2 m (aCons (fGl ω (fN 0)) (aCons (fN 1) aNil))
def resS (ρ : List SV) (s : GS) : Res → Out GS
  | .inl d => .nx (ρ.set 2 (.im d)) s
  | .inr y => .np y s
theorem aSetG_of {ω : GO} {m : List D → Unit → Option (Res × Unit)} {ρ : List SV} {s : GS} {l c : D} {o : Res} (h0 : ρ[0]? = some (.im (.h ω.pg))) (hl : s.1.getLast? = some l) (h1 : ρ[1]? = some (.im c)) (e : m [l, c] () = some (o, ())) : aSetG ω m ρ s = resS ρ s o := by
  have ea : (aCons (fGl ω (fN 0)) (aCons (fN 1) aNil) : AF GS) ρ s = some ([l, c], s) := by simp [h0, h1, hl]
  show fSetR (Sub.none (GW ω)) 2 2 m (aCons (fGl ω (fN 0)) (aCons (fN 1) aNil)) ρ s = _
  unfold fSetR
  have ea' : (aCons (fGl ω (fN 0)) (aCons (fN 1) aNil) : AF (GW ω).S) ρ s = some ([l, c], s) := ea
  rw [ea']
  have e' : m [l, c] ((Sub.none (GW ω)).get s) = some (o, ()) := e
  show (if [l, c].length = 2 then _ else _) = _
  rw [if_pos (show [l, c].length = 2 from rfl), e']
  cases o <;> rfl
section
variable {ω : GO} {F0 A : Au} {ts : List T} {s : GS} {c : Cm} (hl : s.1.getLast? = some (.tup [A.d, trd ts])) (hf : ω.first = F0.d) (hF : F0.ok) (h1 : F0.ar = A.ar) (h2 : F0.n = A.n) (hc : c.ok A.ar A.n) (hz : s.2.length < 20) (hp : s.1.length < 1000)
include hl hf hF h1 h2 hc hz hp
theorem act_in {d : D} (hb : m_behind [.tup [A.d, trd ts], c.d] () = some (.inl d, ())) : m_G_act ω [.h ω.pg, c.d] s = some (.inl (.int (s.2.length + 1 : Nat)), (s.1 ++ [d], s.2 ++ [c.d])) := by
  have ec : m_is_command [c.d, F0.d] = some (.bl true) := is_command_m hF (by rw [h1, h2]; exact hc)
  have es := aSetG_of (ω := ω) (m := m_behind) (ρ := [.im (.h ω.pg), .im c.d, .un]) (s := s) rfl hl rfl hb
  have e0 : fNotT (fTru (fCall 2 m_is_command (aCons (fN 1) (aCons (fGf ω (fN 0)) aNil)))) [.im (.h ω.pg), .im c.d, .un] s = some (false, s) := by
    rw [fNotT_, fTru_, call_of (n := 2) (xs := [c.d, F0.d]) (s' := s) (by simp [hf]) rfl ec]
    rfl
  have key : F_G_act ω [.im (.h ω.pg), .im c.d, .un] s = .rt (.int (s.2.length + 1 : Nat)) (s.1 ++ [d], s.2 ++ [c.d]) := by
    refine (seq_nx (ρ' := [.im (.h ω.pg), .im c.d, .un]) (s' := s) ((if_f e0).trans rfl)).trans ?_
    refine (seq_nx (ρ' := [.im (.h ω.pg), .im c.d, .im d]) (s' := s) es).trans ?_
    refine (seq_nx (ρ' := [.im (.h ω.pg), .im c.d, .im d]) (s' := s) (by simp; omega)).trans ?_
    refine (seq_nx (ρ' := [.im (.h ω.pg), .im c.d, .im d]) (s' := (s.1 ++ [d], s.2)) (by simp; omega)).trans ?_
    refine (seq_nx (ρ' := [.im (.h ω.pg), .im c.d, .im d]) (s' := (s.1 ++ [d], s.2 ++ [c.d])) (by simp [show s.2.length ≤ 99999 by omega])).trans ?_
    simp
  show runX 3 (F_G_act ω) [.h ω.pg, c.d] s = _
  unfold runX
  have key' : F_G_act ω (List.map SV.im [.h ω.pg, c.d] ++ List.replicate (3 - [D.h ω.pg, c.d].length) SV.un) s = .rt (.int (s.2.length + 1 : Nat)) (s.1 ++ [d], s.2 ++ [c.d]) := key
  rw [key']
theorem act_out {y : Str} (hb : m_behind [.tup [A.d, trd ts], c.d] () = some (.inr y, ())) : m_G_act ω [.h ω.pg, c.d] s = some (.inr y, s) := by
  have ec : m_is_command [c.d, F0.d] = some (.bl true) := is_command_m hF (by rw [h1, h2]; exact hc)
  have es := aSetG_of (ω := ω) (m := m_behind) (ρ := [.im (.h ω.pg), .im c.d, .un]) (s := s) rfl hl rfl hb
  have e0 : fNotT (fTru (fCall 2 m_is_command (aCons (fN 1) (aCons (fGf ω (fN 0)) aNil)))) [.im (.h ω.pg), .im c.d, .un] s = some (false, s) := by
    rw [fNotT_, fTru_, call_of (n := 2) (xs := [c.d, F0.d]) (s' := s) (by simp [hf]) rfl ec]
    rfl
  have key : F_G_act ω [.im (.h ω.pg), .im c.d, .un] s = .np y s := by
    refine (seq_nx (ρ' := [.im (.h ω.pg), .im c.d, .un]) (s' := s) ((if_f e0).trans rfl)).trans ?_
    exact seq_np (s' := s) es
  show runX 3 (F_G_act ω) [.h ω.pg, c.d] s = _
  unfold runX
  have key' : F_G_act ω (List.map SV.im [.h ω.pg, c.d] ++ List.replicate (3 - [D.h ω.pg, c.d].length) SV.un) s = .np y s := key
  rw [key']
theorem told_in {d : D} (hb : m_behind [.tup [A.d, trd ts], c.d] () = some (.inl d, ())) : m_L_told ω [.h ω.pg, c.d] s = some (.int (s.2.length + 1 : Nat), (s.1 ++ [d], s.2 ++ [c.d])) := by
  have e := act_in hl hf hF h1 h2 hc hz hp hb
  unfold m_L_told
  simp only [isHt, if_true, e]
theorem told_out {y : Str} (hb : m_behind [.tup [A.d, trd ts], c.d] () = some (.inr y, ())) : m_L_told ω [.h ω.pg, c.d] s = some (.tup [.str "not", .str y], s) := by
  have e := act_out hl hf hF h1 h2 hc hz hp hb
  unfold m_L_told
  simp only [isHt, if_true, e]
end
end K7
end
section
set_option maxRecDepth 100000
/-! K76, plain law, part q: the stream. -/
namespace K7
open PySem L2
abbrev SS := Int × Nat
@[simp] theorem fSg_ {ω : SO} {fa fb : EF SS} {ρ : List SV} {s : SS} : fSg ω fa fb ρ s = (fa ρ s).bind fun p => (fb ρ p.2).bind fun q => (match p.1, q.1 with | .h a, .int i => if a = ω.ps then (sGet ω.ns q.2 i).map fun d => (d, q.2) else none | _, _ => none) := rfl
@[simp] theorem fSs_ {ω : SO} {fa fe : EF SS} {i : Int} {ρ : List SV} {s : SS} : fSs ω fa i fe ρ s = (match fe ρ s with | some (.int v, s1) => (match fa ρ s1 with | some (.h a, s2) => if a = ω.ps then (if i = 1 then .nx ρ (v, s2.2) else if i = 2 ∧ 0 ≤ v then .nx ρ (s2.1, v.toNat) else .no) else .no | _ => .no) | _ => .no) := rfl
@[simp] theorem sGet0 {ns : List Int} {s : SS} : sGet ns s 0 = some (.lst (ns.map D.int)) := rfl
@[simp] theorem sGet1 {ns : List Int} {s : SS} : sGet ns s 1 = some (.int s.1) := rfl
@[simp] theorem sGet2 {ns : List Int} {s : SS} : sGet ns s 2 = some (.int s.2) := rfl
theorem mul_r {i j : Int} (h : -(2 ^ 64) < j ∧ j < 2 ^ 64) : dMul (.int i) (.int j) = some (.int (i * j)) := if_pos (.inr h)
theorem mod_p {i j : Int} (h : 0 < j) : dMod (.int i) (.int j) = some (.int (i % j)) := if_pos h
theorem div_p {i j : Int} (h : 0 < j) (h2 : j < 1073741824) : dDiv (.int i) (.int j) = some (.int (i / j)) := if_pos ⟨h, h2⟩
theorem pow_of {i j : Int} (h : 0 ≤ j ∧ j ≤ 1000000 ∧ i.natAbs < 2 ^ 64) : dPow (.int i) (.int j) = some (.int (i ^ j.toNat)) := if_pos h
theorem pow18 : ∃ P, dPow (.int 10) (.int 18) = some (.int P) := ⟨_, pow_of ⟨by decide, by decide, by decide⟩⟩
theorem cell_go {ω : SO} {d1 : D} {x4 : SV} {s : SS} {c1 k : Int} (k1 k2 k3 k4 k5 k6 M : Int) (hP : ∃ P, dPow (.int k5) (.int k6) = some (.int P)) (m1 : ∀ i, dMul (.int i) (.int k1) = some (.int (i * k1))) (m2 : ∀ i, dMul (.int i) (.int k2) = some (.int (i * k2))) (m3 : ∀ i, dMul (.int i) (.int k3) = some (.int (i * k3)))
    (m4 : ∀ i, dMul (.int i) (.int k4) = some (.int (i * k4))) (mM : ∀ i, dMod (.int i) (.int M) = some (.int (i % M))) :
    ∃ c, fIf (fT (fBin dLt (fNw 3) (fBin dPow (fC (.int k5)) (fC (.int k6))))) (fSeq (fAsg (fBin dMod (fUn dToInt (fBin dAdd (fBin dAdd (fBin dMul (fNw 3) (fC (.int k1))) (fBin dMul (fNw 2) (fC (.int k2)))) (fC (.int 11)))) (fC (.int M))) (gN 3)) (fAsg (fBin dAdd (fBin dMul (fBin dMod (fUn dToInt (fBin dAdd (fBin dMul (fNw 3) (fC (.int k3))) (fC (.int 13)))) (fC (.int M))) (fC (.int k4))) (fNw 3)) (gN 3))) fNext [.im (.h ω.ps), .im d1, .im (.int k), .im (.int c1), x4] s = .nx [.im (.h ω.ps), .im d1, .im (.int k), .im (.int c), x4] s := by
  obtain ⟨P, hP⟩ := hP
  by_cases h : c1 < P
  · exact ⟨_, (if_t (s' := s) (by simp [hP, h])).trans (by simp [m1, m2, m3, m4, mM]; rfl)⟩
  · exact ⟨c1, (if_f (s' := s) (by simp [hP, h])).trans rfl⟩
/-- what the cell comes to -/
def nxB (ω : SO) : SF SS := (fSeq (fAsg (fSg ω (fNw 0) (fC (.int 2))) (gN 2))
  (fSeq (fAsg (fBin dAdd (fC (.int 7)) (fNw 2)) (gN 3))
  (fSeq (fIf (fT (fBin dLt (fNw 2) (fUn dLen (fSg ω (fNw 0) (fC (.int 0)))))) (fAsg (fUn dAbs (fBin dItem (fSg ω (fNw 0) (fC (.int 0))) (fNw 2))) (gN 3)) fNext)
  (fSeq (fIf (fT (fBin dLt (fNw 3) (fBin dPow (fC (.int 10)) (fC (.int 18))))) (fSeq (fAsg (fBin dMod (fUn dToInt (fBin dAdd (fBin dAdd (fBin dMul (fNw 3) (fC (.int 48271))) (fBin dMul (fNw 2) (fC (.int 69621)))) (fC (.int 11)))) (fC (.int 2147483647))) (gN 3))
  (fAsg (fBin dAdd (fBin dMul (fBin dMod (fUn dToInt (fBin dAdd (fBin dMul (fNw 3) (fC (.int 16807))) (fC (.int 13)))) (fC (.int 2147483647))) (fC (.int 65537))) (fNw 3)) (gN 3))) fNext)
  (fSeq (fSs ω (fN 0) 1 (fN 3))
  (fSs ω (fN 0) 2 (fBin dAdd (fNw 2) (fC (.int 1)))))))))
theorem nxB_go {ω : SO} {d1 : D} {x2 x3 x4 : SV} {s : SS} : ∃ c k s', nxB ω [.im (.h ω.ps), .im d1, x2, x3, x4] s = .nx [.im (.h ω.ps), .im d1, .im (.int k), .im (.int c), x4] s' := by
  obtain ⟨cell, k⟩ := s
  have e1 : ∃ c, fIf (fT (fBin dLt (fNw 2) (fUn dLen (fSg ω (fNw 0) (fC (.int 0)))))) (fAsg (fUn dAbs (fBin dItem (fSg ω (fNw 0) (fC (.int 0))) (fNw 2))) (gN 3)) fNext [.im (.h ω.ps), .im d1, .im (.int k), .im (.int (7 + k)), x4] (cell, k) = .nx [.im (.h ω.ps), .im d1, .im (.int k), .im (.int c), x4] (cell, k) := by
    by_cases h : k < ω.ns.length
    · have e := List.getElem?_eq_getElem h
      exact ⟨_, by simp [h, e]; rfl⟩
    · exact ⟨7 + k, by simp [h]⟩
  obtain ⟨c1, e1⟩ := e1
  have e2 := cell_go (ω := ω) (d1 := d1) (x4 := x4) (s := (cell, k)) (c1 := c1) (k := k) 48271 69621 16807 65537 10 18 2147483647 pow18 (fun _ => mul_r (by decide)) (fun _ => mul_r (by decide)) (fun _ => mul_r (by decide)) (fun _ => mul_r (by decide)) (fun _ => mod_p (by decide))
  obtain ⟨c2, e2⟩ := e2
  refine ⟨c2, k, (c2, k + 1), ?_⟩
  refine (seq_nx (ρ' := [.im (.h ω.ps), .im d1, .im (.int k), x3, x4]) (s' := (cell, k)) (by simp)).trans ?_
  refine (seq_nx (ρ' := [.im (.h ω.ps), .im d1, .im (.int k), .im (.int (7 + k)), x4]) (s' := (cell, k)) (by simp)).trans ?_
  refine (seq_nx (s' := (cell, k)) e1).trans ((seq_nx (s' := (cell, k)) e2).trans ?_)
  refine (seq_nx (ρ' := [.im (.h ω.ps), .im d1, .im (.int k), .im (.int c2), x4]) (s' := (c2, k)) (by simp)).trans ?_
  simp [show (0 : Int) ≤ (k : Int) + 1 by omega]
theorem next_m (ω : SO) {many : Int} (h1 : 1 ≤ many) (h2 : many ≤ 1000) (s : SS) : ∃ d s', m_L_next ω [.h ω.ps, .int many] s = some (.int d, s') ∧ 0 ≤ d ∧ d < many := by
  have key : ∃ x2 x3 s1, fIf (fT (fBin dEq (fSg ω (fNw 0) (fC (.int 1))) (fC (.int 0)))) (nxB ω) fNext [.im (.h ω.ps), .im (.int many), .un, .un, .un] s = .nx [.im (.h ω.ps), .im (.int many), x2, x3, .un] s1 := by
    by_cases h : s.1 = 0
    · obtain ⟨c, k, s', e⟩ := nxB_go (ω := ω) (d1 := .int many) (x2 := .un) (x3 := .un) (x4 := .un) (s := s)
      exact ⟨_, _, s', (if_t (s' := s) (by simp [h])).trans e⟩
    · exact ⟨.un, .un, s, (if_f (s' := s) (by simp [h])).trans rfl⟩
  obtain ⟨x2, x3, s1, e⟩ := key
  have hp : 0 < many := by omega
  have hb : many < 1073741824 := Int.lt_of_le_of_lt h2 (by decide)
  refine ⟨s1.1 % many, (s1.1 / many, s1.2), ?_, Int.emod_nonneg _ (by omega), Int.emod_lt_of_pos _ hp⟩
  refine runW_rt (n := 5) (f := F_L_next ω) (xs := [.h ω.ps, .int many]) ?_
  refine (seq_nx (s' := s1) e).trans ?_
  refine (seq_nx (ρ' := [.im (.h ω.ps), .im (.int many), x2, x3, .im (.int (s1.1 % many))]) (s' := s1) (by simp [mod_p hp])).trans ?_
  refine (seq_nx (ρ' := [.im (.h ω.ps), .im (.int many), x2, x3, .im (.int (s1.1 % many))]) (s' := (s1.1 / many, s1.2)) (by simp [div_p hp hb])).trans ?_
  simp
end K7
end
section
set_option maxRecDepth 100000
/-! K76, plain law, part r: drawing. -/
namespace K7
open PySem L2
def arS : List (List Int) := [[0, 0, 2], [0, 1], [0, 2], [0, 1, 2], [0, 0, 1], [2, 0], [1, 0, 0, 2]]
theorem arities_draw (ω : SO) (s : SS) : ∃ ar s', m_L_arities ω [.h ω.ps] s = some (pd ar, s') ∧ ar ∈ arS := by
  obtain ⟨d, s', e, h0, h7⟩ := next_m ω (many := 7) (by decide) (by decide) s
  have key : ∀ (f : List D → SS → Option (D × SS)), f [.h ω.ps, .int 7] s = some (.int d, s') → ∃ ar, (fRet (fBin dItem (fLst (aCons (fTup (aCons (fC (.int 0)) (aCons (fC (.int 0)) (aCons (fC (.int 2)) aNil)))) (aCons (fTup (aCons (fC (.int 0)) (aCons (fC (.int 1)) aNil))) (aCons (fTup (aCons (fC (.int 0)) (aCons (fC (.int 2)) aNil))) (aCons (fTup (aCons (fC (.int 0)) (aCons (fC (.int 1)) (aCons (fC (.int 2)) aNil)))) (aCons (fTup (aCons (fC (.int 0)) (aCons (fC (.int 0)) (aCons (fC (.int 1)) aNil)))) (aCons (fTup (aCons (fC (.int 2)) (aCons (fC (.int 0)) aNil))) (aCons (fTup (aCons (fC (.int 1)) (aCons (fC (.int 0)) (aCons (fC (.int 0)) (aCons (fC (.int 2)) aNil))))) aNil)))))))) (fCallW 2 f (aCons (fN 0) (aCons (fC (.int 7)) aNil)))) : SF SS) [.im (.h ω.ps)] s = .rt (pd ar) s' ∧ ar ∈ arS := by
    intro f e
    have hd : d = 0 ∨ d = 1 ∨ d = 2 ∨ d = 3 ∨ d = 4 ∨ d = 5 ∨ d = 6 := by omega
    rcases hd with rfl | rfl | rfl | rfl | rfl | rfl | rfl
    · exact ⟨[0, 0, 2], by simp [e, pd], by simp [arS]⟩
    · exact ⟨[0, 1], by simp [e, pd], by simp [arS]⟩
    · exact ⟨[0, 2], by simp [e, pd], by simp [arS]⟩
    · exact ⟨[0, 1, 2], by simp [e, pd], by simp [arS]⟩
    · exact ⟨[0, 0, 1], by simp [e, pd], by simp [arS]⟩
    · refine ⟨[2, 0], ?_, by simp [arS]⟩
      simp [e, pd, atI, ixN]
    · refine ⟨[1, 0, 0, 2], ?_, by simp [arS]⟩
      simp [e, pd, atI, ixN]
  obtain ⟨ar, h1, h2⟩ := key _ e
  exact ⟨ar, s', runW_rt (n := 1) (f := F_L_arities ω) (xs := [.h ω.ps]) h1, h2⟩
end K7
namespace K7
open PySem L2
/-- a comprehension whose elements are drawn -/
theorem lc_draw {α : Type} {enc : α → D} {P : α → Prop} {S : Type} {fe : EF S} {i : Nat} {ρ : List SV} (h : ∀ d s, ∃ x s', fe (ρ.set i (.im d)) s = some (enc x, s') ∧ P x) : ∀ (ds : List D) (s : S), ∃ (xs : List α) (s' : S), lcGo (gN i) fYes fe ρ ds s = some (xs.map enc, s') ∧ xs.length = ds.length ∧ ∀ x ∈ xs, P x
  | [], s => ⟨[], s, rfl, rfl, fun _ h => (nomatch h)⟩
  | d :: ds, s => by
    obtain ⟨x, s1, e1, p⟩ := h d s
    obtain ⟨xs, s2, e2, l, ps⟩ := lc_draw h ds s1
    refine ⟨x :: xs, s2, ?_, by simp [l], fun y hy => ?_⟩
    · simp [lcGo, e1, e2]
    · rcases List.mem_cons.mp hy with rfl | hy
      · exact p
      · exact ps y hy
/-- arities that are drawn: small, a leaf among them -/
structure ArOk (ar : List Int) : Prop where
  l : 1 ≤ ar.length ∧ ar.length ≤ 4
  r : ∀ a ∈ ar, a = 0 ∨ a = 1 ∨ a = 2
  z : ∃ i : Nat, ar[i]? = some 0
theorem arS_ok {ar : List Int} (h : ar ∈ arS) : ArOk ar := by
  simp [arS] at h
  rcases h with rfl | rfl | rfl | rfl | rfl | rfl | rfl
  · exact ⟨by decide, by simp, 0, rfl⟩
  · exact ⟨by decide, by simp, 0, rfl⟩
  · exact ⟨by decide, by simp, 0, rfl⟩
  · exact ⟨by decide, by simp, 0, rfl⟩
  · exact ⟨by decide, by simp, 0, rfl⟩
  · exact ⟨by decide, by simp, 1, rfl⟩
  · exact ⟨by decide, by simp, 1, rfl⟩
def nearB (ar : List Int) (room : Nat) (i : Nat) : Bool := match ar[i]? with
  | some a => decide (a < (room : Int))
  | none => false
theorem tree_rt {ω : SO} {j : Nat} {x y z d : D} {s s' : SS} (h : F_L_tree ω (m_L_tree j ω) [.im x, .im y, .im z, .un, .un, .un] s = .rt d s') : m_L_tree (j + 1) ω [x, y, z] s = some (d, s') := by
  show runW 6 (F_L_tree ω (m_L_tree j ω)) [x, y, z] s = _
  generalize F_L_tree ω (m_L_tree j ω) = f at h ⊢
  exact runW_rt h
theorem tree_draw {ar : List Int} (ha : ArOk ar) (ω : SO) : ∀ (j room : Nat) (s : SS), 1 ≤ room → room ≤ j → room ≤ 100 → ∃ (t : T) (s' : SS), m_L_tree j ω [.h ω.ps, pd ar, .int room] s = some (t.d, s') ∧ t.ok ar ∧ t.size ≤ room := by
  intro j
  induction j with
  | zero => intro room s h1 h2; omega
  | succ j ih =>
    intro room s h1 h2 h3
    have hl := ha.l
    -- near
    have el := lc_filter (S := SS) (s := s) (ρ := [.im (.h ω.ps), .im (.tup (ar.map D.int)), .im (.int room), .un, .un, .un]) (gf := gN 4) (ft := fT (fBin dLt (fBin dItem (fNw 1) (fNw 4)) (fNw 2))) (fe := fN 4) (enc := fun i : Nat => D.int ((0 : Int) + (i : Int))) (g := fun i : Nat => D.int (i : Int)) (p := nearB ar room) (xs := List.range ar.length) fun i hi => by
      have hi' : i < ar.length := List.mem_range.mp hi
      have e := List.getElem?_eq_getElem hi'
      generalize ar[i] = a at e
      refine ⟨_, rfl, ?_, by simp⟩
      simp [nearB, e]
    have er := rg_of (S := SS) (ρ := [.im (.h ω.ps), .im (.tup (ar.map D.int)), .im (.int room), .un, .un, .un]) (s := s) (s' := s) (fa := fUn dLen (fNw 1)) ar.length (by omega) (by simp)
    obtain ⟨z, hz⟩ := ha.z
    have hzl := (List.getElem?_eq_some_iff.mp hz).1
    have hn : z ∈ (List.range ar.length).filter (nearB ar room) := List.mem_filter.mpr ⟨List.mem_range.mpr hzl, by simp [nearB, hz]; omega⟩
    have hnl : ((List.range ar.length).filter (nearB ar room)).length ≤ 4 := Nat.le_trans (List.length_filter_le _ _) (by simp; omega)
    have hpos : 1 ≤ ((List.range ar.length).filter (nearB ar room)).length := List.length_pos_of_mem hn
    have hmem : ∀ i ∈ (List.range ar.length).filter (nearB ar room), ∃ a, ar[i]? = some a ∧ a < (room : Int) := fun i hi => by
      obtain ⟨h4, h5⟩ := List.mem_filter.mp hi
      have e := List.getElem?_eq_getElem (List.mem_range.mp h4)
      refine ⟨_, e, ?_⟩
      simp [nearB, e] at h5
      exact h5
    generalize hL : (List.range ar.length).filter (nearB ar room) = L at el hn hnl hpos hmem
    obtain ⟨d, s1, en, hd0, hd1⟩ := next_m ω (many := (L.length : Int)) (by omega) (by omega) s
    have hdl : d.toNat < L.length := by omega
    have gL := List.getElem?_eq_getElem hdl
    have mL := List.getElem_mem hdl
    generalize L[d.toNat] = i at gL mL
    obtain ⟨a, ga, hlt⟩ := hmem i mL
    have ha2 := ha.r a (List.mem_of_getElem? ga)
    have ei : atI (L.map fun i : Nat => D.int (i : Int)) d = some (.int (i : Int)) := by
      rw [atI_nn hd0, List.getElem?_map, gL]
      rfl
    have er' : sRg1 (fUn dLen (fNw 1)) [.im (.h ω.ps), .im (.tup (ar.map D.int)), .im (.int room), .un, .un, .un] s = some ((List.range ar.length).map fun i : Nat => D.int ((0 : Int) + (i : Int)), s) := er
    have o1 : fAsg (fLc (sRg1 (fUn dLen (fNw 1))) (gN 4) (fT (fBin dLt (fBin dItem (fNw 1) (fNw 4)) (fNw 2))) (fN 4) [4]) (gN 3) [.im (.h ω.ps), .im (pd ar), .im (.int room), .un, .un, .un] s = .nx [.im (.h ω.ps), .im (pd ar), .im (.int room), .im (.lst (L.map fun i : Nat => D.int (i : Int))), .un, .un] s := by
      refine set_of (d := .lst (L.map fun i : Nat => D.int (i : Int))) (s' := s) ?_
      rw [fLc_, if_pos (by rfl)]
      refine (congrArg (fun z => Option.bind z _) er').trans ?_
      rw [Option.bind_some, if_pos (by rw [List.length_map, List.length_range]; omega)]
      exact (congrArg (Option.map _) el).trans rfl
    have fin : ∀ (f : List D → SS → Option (D × SS)) (rec : List D → SS → Option (D × SS)), f [.h ω.ps, .int (L.length : Int)] s = some (.int d, s1) →
        fAsg (fBin dItem (fNw 3) (fCallW 2 f (aCons (fN 0) (aCons (fUn dLen (fNw 3)) aNil)))) (gN 4) [.im (.h ω.ps), .im (pd ar), .im (.int room), .im (.lst (L.map fun i : Nat => D.int (i : Int))), .un, .un] s = .nx [.im (.h ω.ps), .im (pd ar), .im (.int room), .im (.lst (L.map fun i : Nat => D.int (i : Int))), .im (.int (i : Int)), .un] s1 := by
      intro f rec ef
      simp [ef, ei]
    have o2 := fin (m_L_next ω) (m_L_tree j ω) en
    have hs0 : (0 : Int) ≤ (i : Int) := by omega
    rcases ha2 with rfl | rfl | rfl
    · refine ⟨.a i, s1, tree_rt ((seq_nx o1).trans ((seq_nx o2).trans ?_)), ⟨hs0, by simpa using ga⟩, by simp [T.size]; omega⟩
      refine seq_rt (s' := s1) ((if_t (s' := s1) (by simp [pd, ga])).trans ?_)
      simp [T.d]
    · obtain ⟨x, s2, e1, ho, hz1⟩ := ih (room - 1) s1 (by omega) (by omega)  (by omega)
      rw [show ((room - 1 : Nat) : Int) = (room : Int) - 1 by omega] at e1
      refine ⟨.b i x, s2, tree_rt ((seq_nx o1).trans ((seq_nx o2).trans ?_)), ⟨hs0, by simpa using ga, ho⟩, by simp [T.size]; omega⟩
      refine (seq_nx (s' := s1) ((if_f (s' := s1) (by simp [pd, ga])).trans fNext_)).trans (seq_rt (s' := s2) ((if_t (s' := s1) (by simp [pd, ga])).trans ?_))
      generalize m_L_tree j ω = g at e1 ⊢
      simp [T.d, e1]
    · obtain ⟨d2, s2, e2, hd2, hd3⟩ := next_m ω (many := (room : Int) - 2) (by omega) (by omega) s1
      obtain ⟨x, s3, e3, hox, hzx⟩ := ih (1 + d2.toNat) s2 (by omega) (by omega) (by omega)
      obtain ⟨y, s4, e4, hoy, hzy⟩ := ih (room - 1 - (1 + d2.toNat)) s3 (by omega) (by omega) (by omega)
      rw [show ((1 + d2.toNat : Nat) : Int) = 1 + d2 by omega] at e3
      rw [show ((room - 1 - (1 + d2.toNat) : Nat) : Int) = (room : Int) - 1 - (1 + d2) by omega] at e4
      refine ⟨.c i x y, s4, tree_rt ((seq_nx o1).trans ((seq_nx o2).trans ?_)), ⟨hs0, by simpa using ga, hox, hoy⟩, by simp [T.size]; omega⟩
      refine (seq_nx (s' := s1) ((if_f (s' := s1) (by simp [pd, ga])).trans fNext_)).trans ((seq_nx (s' := s1) ((if_f (s' := s1) (by simp [pd, ga])).trans fNext_)).trans ?_)
      refine (seq_nx (ρ' := [.im (.h ω.ps), .im (pd ar), .im (.int room), .im (.lst (L.map fun i : Nat => D.int (i : Int))), .im (.int (i : Int)), .im (.int (1 + d2))]) (s' := s2) ?_).trans ?_
      · generalize m_L_next ω = f at e2 ⊢
        simp [e2]
      · generalize m_L_tree j ω = g at e3 e4 ⊢
        simp [T.d, e3, e4]
end K7
end
section
set_option maxRecDepth 100000
/-! K76, plain law, part s: drawing places and commands. -/
namespace K7
open PySem L2
theorem places_draw (ω : SO) {t : T} (hz : t.size ≤ 15) (s : SS) : ∃ (p : List Int) (s' : SS), m_L_places_of ω [.h ω.ps, t.d] s = some (pd p, s') ∧ Pl p ∧ p.length ≤ 14 := by
  have ep := places_m 20 t (by omega) (by omega)
  have hpl := t.pls_len
  have hp := t.size_pos
  obtain ⟨d, s1, e1, h0, h1⟩ := next_m ω (many := (t.pls.length : Int)) (by omega) (by omega) s
  have hdl : d.toNat < t.pls.length := by omega
  have gL := List.getElem?_eq_getElem hdl
  have mL := List.getElem_mem hdl
  generalize t.pls[d.toNat] = p at gL mL
  obtain ⟨q1, q2, q3⟩ := t.pls_ok p mL
  have ei : atI (t.pls.map pd) d = some (pd p) := at_pd h0 gL
  obtain ⟨d6, s2, e2, h2, h3⟩ := next_m ω (many := 6) (by decide) (by decide) s1
  have run : ∀ (o : List SV → SS → Out SS) (r : D) (s' : SS), F_L_places_of ω [.im (.h ω.ps), .im t.d, .un, .un] s = .rt r s' → m_L_places_of ω [.h ω.ps, t.d] s = some (r, s') := fun _ r s' h => runW_rt (n := 4) (f := F_L_places_of ω) (xs := [.h ω.ps, t.d]) h
  have o1 : fAsg (fCall 1 (m_L_places 20) (aCons (fN 1) aNil)) (gN 2) [.im (.h ω.ps), .im t.d, .un, .un] s = .nx [.im (.h ω.ps), .im t.d, .im (.lst (t.pls.map pd)), .un] s := set_of (call_of (xs := [t.d]) (s' := s) (by simp) rfl ep)
  have o2 : fAsg (fBin dItem (fNw 2) (fCallW 2 (m_L_next ω) (aCons (fN 0) (aCons (fUn dLen (fNw 2)) aNil)))) (gN 3) [.im (.h ω.ps), .im t.d, .im (.lst (t.pls.map pd)), .un] s = .nx [.im (.h ω.ps), .im t.d, .im (.lst (t.pls.map pd)), .im (pd p)] s1 := by
    generalize m_L_next ω = f at e1 ⊢
    simp [e1, ei]
  by_cases hc : d6 = 0 ∧ p.length < 14
  · obtain ⟨d2, s3, e3, h4, h5⟩ := next_m ω (many := 2) (by decide) (by decide) s2
    refine ⟨p ++ [d2], s3, run (fun _ s => .nx [] s) _ _ ((seq_nx o1).trans ((seq_nx o2).trans ((seq_nx (ρ' := [.im (.h ω.ps), .im t.d, .im (.lst (t.pls.map pd)), .im (pd (p ++ [d2]))]) (s' := s3) ?_).trans (by simp)))), fun k hk => ?_, by simp; omega⟩
    · generalize m_L_next ω = f at e2 e3 ⊢
      refine (if_t (s' := s2) ?_).trans ?_
      · simp [e2, hc.1, pd, show (p.length : Int) < 14 by omega]
      · simp [e3, pd, show p.length ≤ 99999 by omega]
    · rcases List.mem_append.mp hk with hk | hk
      · exact q1 k hk
      · simp at hk
        omega
  · refine ⟨p, s2, run (fun _ s => .nx [] s) _ _ ((seq_nx o1).trans ((seq_nx o2).trans ((seq_nx (ρ' := [.im (.h ω.ps), .im t.d, .im (.lst (t.pls.map pd)), .im (pd p)]) (s' := s2) ?_).trans (by simp)))), q1, by omega⟩
    generalize m_L_next ω = f at e2 ⊢
    refine (if_f (s' := s2) ?_).trans rfl
    by_cases hd : d6 = 0
    · have : ¬ p.length < 14 := fun z => hc ⟨hd, z⟩
      simp [e2, hd, pd, show ¬ (p.length : Int) < 14 by omega]
    · simp [e2, hd]
end K7
namespace K7
open PySem L2
section
variable (f g h : List D → SS → Option (D × SS))
def FC4 : SF SS := fSeq (fAsg (fCallW 2 f (aCons (fN 0) (aCons (fUn dLen (fNw 3)) aNil))) (gN 11))
  (fSeq (fAsg (fUn dTuple (fLc (sRg1 (fBin dItem (fNw 3) (fNw 11))) (gN 13) fYes (fCallW 2 f (aCons (fN 0) (aCons (fUn dLen (fNw 4)) aNil))) [13])) (gN 12))
  (fRet (fTup (aCons (fC (.str "step")) (aCons (fN 11) (aCons (fN 12) (aCons (fCallW 2 f (aCons (fN 0) (aCons (fUn dLen (fNw 4)) aNil))) aNil)))))))
def FC3 : SF SS := fSeq (fIf (fT (fBin dEq (fNw 6) (fC (.int 7)))) (fRet (fTup (aCons (fC (.str "take")) (aCons (fCallW 2 f (aCons (fN 0) (aCons (fBin dAdd (fNw 7) (fUn dToInt (fBin dLt (fNw 7) (fC (.int 11))))) aNil))) aNil)))) fNext)
  (fSeq (fIf (fT (fBin dEq (fNw 6) (fC (.int 8)))) (fRet (fTup (aCons (fC (.str "good")) (aCons (fCallW 2 f (aCons (fN 0) (aCons (fUn dLen (fNw 4)) aNil))) (aCons (fBin dEq (fCallW 2 f (aCons (fN 0) (aCons (fC (.int 2)) aNil))) (fC (.int 1))) aNil))))) fNext)
  (FC4 f))
def FCs : SF SS := (fSeq (fAsg (fCallW 2 f (aCons (fN 0) (aCons (fBin dAdd (fNw 7) (fUn dToInt (fBin dLt (fNw 7) (fC (.int 11))))) aNil))) (gN 8))
  (fSeq (fAsg (fCallW 2 f (aCons (fN 0) (aCons (fN 7) aNil))) (gN 9))
  (fSeq (fAsg (fTup aNil) (gN 10))
  (fSeq (fIf (fT (fBin dLt (fNw 8) (fNw 7))) (fAsg (fCallW 2 h (aCons (fN 0) (aCons (fBin dItem (fNw 2) (fNw 8)) aNil))) (gN 10)) fNext)
  (fRet (fTup (aCons (fC (.str "swap")) (aCons (fN 8) (aCons (fN 10) (aCons (fN 9) (aCons (fCallW 2 h (aCons (fN 0) (aCons (fBin dItem (fNw 2) (fNw 9)) aNil))) aNil)))))))))))
def FC : SF SS := fSeq (fAsg (fN 1) (gT 3 (gsCons 3 (gsCons 4 (gsCons 5 gsNil)))))
  (fSeq (fAsg (fCallW 2 f (aCons (fN 0) (aCons (fC (.int 10)) aNil))) (gN 6))
  (fSeq (fAsg (fUn dLen (fNw 2)) (gN 7))
  (fSeq (fIf (fOrT (fT (fBin dLt (fNw 6) (fC (.int 3)))) (fT (fBin dEq (fNw 7) (fC (.int 0))))) (fRet (fTup (aCons (fC (.str "put")) (aCons (fCallW 3 g (aCons (fN 0) (aCons (fN 3) (aCons (fC (.int 7)) aNil)))) aNil)))) fNext)
  (fSeq (fIf (fT (fBin dLt (fNw 6) (fC (.int 7)))) (FCs f h) fNext) (FC3 f)))))
end
theorem FC_eq (ω : SO) : F_L_command ω = FC (m_L_next ω) (m_L_tree 20 ω) (m_L_places_of ω) := rfl
end K7
namespace K7
open PySem L2
section
variable {f g h : List D → SS → Option (D × SS)} {a : Addr} {A : Au} {ts : List T} (hA : A.ok) (ht : TsOk A.ar ts)
  (hf : ∀ (many : Int) (s : SS), 1 ≤ many → many ≤ 1000 → ∃ d s', f [.h a, .int many] s = some (.int d, s') ∧ 0 ≤ d ∧ d < many)
  (hg : ∀ s : SS, ∃ (t : T) (s' : SS), g [.h a, pd A.ar, .int 7] s = some (t.d, s') ∧ t.ok A.ar ∧ t.size ≤ 15)
  (hh : ∀ t ∈ ts, ∀ s : SS, ∃ (p : List Int) (s' : SS), h [.h a, t.d] s = some (pd p, s') ∧ Pl p ∧ p.length ≤ 14)
/-- the slots behind the first three steps -/
def Cs (a : Addr) (A : Au) (ts : List T) (pick : Int) : List SV := [.im (.h a), .im A.d, .im (trd ts), .im (pd A.ar), .im (.tup (A.good.map D.bl)), .im (.tup (A.st.map En.d)), .im (.int pick), .im (.int ts.length), .un, .un, .un, .un, .un, .un]
include hA hf
theorem c_step (pick : Int) (s : SS) : ∃ (c : Cm) (s' : SS), FC4 f (Cs a A ts pick) s = .rt c.d s' ∧ c.ok A.ar A.n := by
  have hal := hA.al
  have hgl := hA.gl
  have hgn : A.good.length = A.n := rfl
  obtain ⟨d, s1, e1, h0, h1⟩ := hf (A.ar.length : Int) s (by omega) (by omega)
  have hdl : d.toNat < A.ar.length := by omega
  have ga := List.getElem?_eq_getElem hdl
  generalize A.ar[d.toNat] = k at ga
  obtain ⟨r0, r1⟩ := ar_range hA ga
  have ek := at_ints h0 ga
  have dr := lc_draw (α := Int) (enc := D.int) (P := InR A.n) (fe := fCallW 2 f (aCons (fN 0) (aCons (fUn dLen (fNw 4)) aNil))) (i := 13) (ρ := [.im (.h a), .im A.d, .im (trd ts), .im (pd A.ar), .im (.tup (A.good.map D.bl)), .im (.tup (A.st.map En.d)), .im (.int pick), .im (.int ts.length), .un, .un, .un, .im (.int d), .un, .un]) (fun dd s => by
    obtain ⟨q, s', e, q0, q1⟩ := hf (A.n : Int) s (by omega) (by omega)
    exact ⟨q, s', by simp [hgn, e], q0, q1⟩) (rgD 0 k.toNat) s1
  obtain ⟨row, s2, e2, hrl, hrow⟩ := dr
  rw [rgD_len] at hrl
  obtain ⟨q, s3, e3, q0, q1⟩ := hf (A.n : Int) s2 (by omega) (by omega)
  refine ⟨.step d row q, s3, ?_, h0, by rw [ga, hrl]; congr 1; omega, hrow, q0, q1⟩
  refine (seq_nx (ρ' := [.im (.h a), .im A.d, .im (trd ts), .im (pd A.ar), .im (.tup (A.good.map D.bl)), .im (.tup (A.st.map En.d)), .im (.int pick), .im (.int ts.length), .un, .un, .un, .im (.int d), .un, .un]) (s' := s1) (by simp [Cs, pd, e1])).trans ?_
  refine (seq_nx (ρ' := [.im (.h a), .im A.d, .im (trd ts), .im (pd A.ar), .im (.tup (A.good.map D.bl)), .im (.tup (A.st.map En.d)), .im (.int pick), .im (.int ts.length), .un, .un, .un, .im (.int d), .im (pd row), .un]) (s' := s2) ?_).trans ?_
  · refine set_of (d := pd row) (s' := s2) ?_
    rw [fUn_, fLc_, if_pos (by rfl)]
    have ek' : (fBin dItem (fNw 3) (fNw 11) : EF SS) [.im (.h a), .im A.d, .im (trd ts), .im (pd A.ar), .im (.tup (A.good.map D.bl)), .im (.tup (A.st.map En.d)), .im (.int pick), .im (.int ts.length), .un, .un, .un, .im (.int d), .un, .un] s1 = some (.int (k.toNat : Int), s1) := by
      rw [show (k.toNat : Int) = k by omega]
      simp [pd, ek]
    rw [rg_of k.toNat (by omega) ek', Option.bind_some, if_pos (by rw [rgD_len]; omega)]
    have e2' : lcGo (gN 13) fYes (fCallW 2 f (aCons (fN 0) (aCons (fUn dLen (fNw 4)) aNil))) (wipeS [.im (.h a), .im A.d, .im (trd ts), .im (pd A.ar), .im (.tup (A.good.map D.bl)), .im (.tup (A.st.map En.d)), .im (.int pick), .im (.int ts.length), .un, .un, .un, .im (.int d), .un, .un] [13]) (rgD 0 k.toNat) s1 = some (row.map D.int, s2) := e2
    rw [e2']
    rfl
  · simp [Cm.d, hgn, e3]
include hh ht
theorem c_swap (pick : Int) (s : SS) (hp : 1 ≤ ts.length) : ∃ (c : Cm) (s' : SS), FCs f h (Cs a A ts pick) s = .rt c.d s' ∧ c.ok A.ar A.n := by
  have htl := ht.tl
  have hi : ∀ s : SS, ∃ d s', (fCallW 2 f (aCons (fN 0) (aCons (fBin dAdd (fNw 7) (fUn dToInt (fBin dLt (fNw 7) (fC (.int 11))))) aNil)) : EF SS) (Cs a A ts pick) s = some (.int d, s') ∧ 0 ≤ d ∧ d < 12 := fun s => by
    by_cases hb : (ts.length : Int) < 11
    · obtain ⟨d, s', e, d0, d1⟩ := hf ((ts.length : Int) + 1) s (by omega) (by omega)
      exact ⟨d, s', by simp [Cs, hb, e], d0, by omega⟩
    · obtain ⟨d, s', e, d0, d1⟩ := hf ((ts.length : Int)) s (by omega) (by omega)
      exact ⟨d, s', by simp [Cs, hb, e], d0, by omega⟩
  obtain ⟨i, s1, e1, i0, i1⟩ := hi s
  obtain ⟨j, s2, e2, j0, j1⟩ := hf (ts.length : Int) s1 (by omega) (by omega)
  have gj := List.getElem?_eq_getElem (l := ts) (i := j.toNat) (by omega)
  have mj := List.getElem_mem (l := ts) (n := j.toNat) (by omega)
  generalize ts[j.toNat] = tj at gj mj
  have aj := at_trees j0 gj
  let R : D → List SV := fun x => [.im (.h a), .im A.d, .im (trd ts), .im (pd A.ar), .im (.tup (A.good.map D.bl)), .im (.tup (A.st.map En.d)), .im (.int pick), .im (.int ts.length), .im (.int i), .im (.int j), .im x, .un, .un, .un]
  have key : ∃ p s3, (fIf (fT (fBin dLt (fNw 8) (fNw 7))) (fAsg (fCallW 2 h (aCons (fN 0) (aCons (fBin dItem (fNw 2) (fNw 8)) aNil))) (gN 10)) fNext : SF SS) (R (.tup [])) s2 = .nx (R (pd p)) s3 ∧ Pl p ∧ p.length ≤ 14 := by
    by_cases hl : i < (ts.length : Int)
    · have gi := List.getElem?_eq_getElem (l := ts) (i := i.toNat) (by omega)
      have mi := List.getElem_mem (l := ts) (n := i.toNat) (by omega)
      generalize ts[i.toNat] = ti at gi mi
      have ai := at_trees i0 gi
      obtain ⟨p, s3, e3, p1, p2⟩ := hh ti mi s2
      exact ⟨p, s3, by simp [R, hl, trd, ai, e3], p1, p2⟩
    · exact ⟨[], s2, by simp [R, hl, pd], fun _ z => (nomatch z), by simp⟩
  obtain ⟨p, s3, e3, p1, p2⟩ := key
  obtain ⟨q, s4, e4, q1, q2⟩ := hh tj mj s3
  refine ⟨.swap i p j q, s4, ?_, i0, i1, j0, by omega, p1, p2, q1, q2⟩
  refine (seq_nx (s' := s1) (set_of e1)).trans ?_
  refine (seq_nx (ρ' := [.im (.h a), .im A.d, .im (trd ts), .im (pd A.ar), .im (.tup (A.good.map D.bl)), .im (.tup (A.st.map En.d)), .im (.int pick), .im (.int ts.length), .im (.int i), .im (.int j), .un, .un, .un, .un]) (s' := s2) (by simp [Cs, e2])).trans ?_
  refine (seq_nx (ρ' := R (.tup [])) (s' := s2) (by simp [R])).trans ((seq_nx (s' := s3) e3).trans ?_)
  simp [R, trd, aj, e4, Cm.d]
end
end K7
end
section
set_option maxRecDepth 100000
/-! K76, plain law, part t: drawing commands and automata. -/
namespace K7
open PySem L2
section
variable {f g h : List D → SS → Option (D × SS)} {a : Addr} {A : Au} {ts : List T} (hA : A.ok) (ht : TsOk A.ar ts)
  (hf : ∀ (many : Int) (s : SS), 1 ≤ many → many ≤ 1000 → ∃ d s', f [.h a, .int many] s = some (.int d, s') ∧ 0 ≤ d ∧ d < many)
  (hg : ∀ s : SS, ∃ (t : T) (s' : SS), g [.h a, pd A.ar, .int 7] s = some (t.d, s') ∧ t.ok A.ar ∧ t.size ≤ 15)
  (hh : ∀ t ∈ ts, ∀ s : SS, ∃ (p : List Int) (s' : SS), h [.h a, t.d] s = some (pd p, s') ∧ Pl p ∧ p.length ≤ 14)
include ht hf in
theorem c_idx (pick : Int) (s : SS) : ∃ d s', (fCallW 2 f (aCons (fN 0) (aCons (fBin dAdd (fNw 7) (fUn dToInt (fBin dLt (fNw 7) (fC (.int 11))))) aNil)) : EF SS) (Cs a A ts pick) s = some (.int d, s') ∧ 0 ≤ d ∧ d < 12 := by
  have htl := ht.tl
  by_cases hb : (ts.length : Int) < 11
  · obtain ⟨d, s', e, d0, d1⟩ := hf ((ts.length : Int) + 1) s (by omega) (by omega)
    exact ⟨d, s', by simp [Cs, hb, e], d0, by omega⟩
  · by_cases hz : ts.length = 0
    · omega
    · obtain ⟨d, s', e, d0, d1⟩ := hf ((ts.length : Int)) s (by omega) (by omega)
      exact ⟨d, s', by simp [Cs, hb, e], d0, by omega⟩
include hA ht hf in
theorem c_rest (pick : Int) (s : SS) : ∃ (c : Cm) (s' : SS), FC3 f (Cs a A ts pick) s = .rt c.d s' ∧ c.ok A.ar A.n := by
  have hgl := hA.gl
  have hgn : A.good.length = A.n := rfl
  by_cases h7 : pick = 7
  · obtain ⟨i, s1, e, i0, i1⟩ := c_idx ht hf pick s
    refine ⟨.take i, s1, seq_rt (s' := s1) ((if_t (s' := s) (by simp [Cs, h7])).trans ?_), i0, i1⟩
    have e2 : (fTup (aCons (fC (.str "take")) (aCons (fCallW 2 f (aCons (fN 0) (aCons (fBin dAdd (fNw 7) (fUn dToInt (fBin dLt (fNw 7) (fC (.int 11))))) aNil))) aNil)) : EF SS) (Cs a A ts pick) s = some (.tup [.str "take", .int i], s1) := by
      rw [fTup_, acons_of fC_ (acons_of e aNil_)]
      rfl
    rw [fRet_, e2]
    rfl
  · refine (fun ⟨c, s', e, ok⟩ => ⟨c, s', (seq_nx (s' := s) ((if_f (s' := s) (by simp [Cs, h7])).trans fNext_)).trans e, ok⟩ : (∃ (c : Cm) (s' : SS), _ = Out.rt c.d s' ∧ c.ok A.ar A.n) → _) ?_
    by_cases h8 : pick = 8
    · obtain ⟨q, s1, e1, q0, q1⟩ := hf (A.n : Int) s (by omega) (by omega)
      obtain ⟨b, s2, e2, b0, b1⟩ := hf 2 s1 (by decide) (by decide)
      refine ⟨.good q (decide (b = 1)), s2, seq_rt (s' := s2) ((if_t (s' := s) (by simp [Cs, h8])).trans ?_), q0, q1⟩
      simp [Cs, hgn, e1, e2, Cm.d]
    · obtain ⟨c, s', e, ok⟩ := c_step hA hf (a := a) (ts := ts) pick s
      exact ⟨c, s', (seq_nx (s' := s) ((if_f (s' := s) (by simp [Cs, h8])).trans fNext_)).trans e, ok⟩
include hA ht hf hg hh
theorem c_all (s : SS) : ∃ (c : Cm) (s' : SS), FC f g h [.im (.h a), .im A.d, .im (trd ts), .un, .un, .un, .un, .un, .un, .un, .un, .un, .un, .un] s = .rt c.d s' ∧ c.ok A.ar A.n := by
  obtain ⟨pick, s1, e1, p0, p1⟩ := hf 10 s (by decide) (by decide)
  have o1 : fAsg (fN 1) (gT 3 (gsCons 3 (gsCons 4 (gsCons 5 gsNil)))) [.im (.h a), .im A.d, .im (trd ts), .un, .un, .un, .un, .un, .un, .un, .un, .un, .un, .un] s = .nx [.im (.h a), .im A.d, .im (trd ts), .im (pd A.ar), .im (.tup (A.good.map D.bl)), .im (.tup (A.st.map En.d)), .un, .un, .un, .un, .un, .un, .un, .un] s := by
    simp [Au.d]
  have o2 : fAsg (fCallW 2 f (aCons (fN 0) (aCons (fC (.int 10)) aNil))) (gN 6) [.im (.h a), .im A.d, .im (trd ts), .im (pd A.ar), .im (.tup (A.good.map D.bl)), .im (.tup (A.st.map En.d)), .un, .un, .un, .un, .un, .un, .un, .un] s = .nx [.im (.h a), .im A.d, .im (trd ts), .im (pd A.ar), .im (.tup (A.good.map D.bl)), .im (.tup (A.st.map En.d)), .im (.int pick), .un, .un, .un, .un, .un, .un, .un] s1 := by
    simp [e1]
  have o3 : fAsg (fUn dLen (fNw 2)) (gN 7) [.im (.h a), .im A.d, .im (trd ts), .im (pd A.ar), .im (.tup (A.good.map D.bl)), .im (.tup (A.st.map En.d)), .im (.int pick), .un, .un, .un, .un, .un, .un, .un] s1 = .nx (Cs a A ts pick) s1 := by
    simp [trd, Cs]
  refine (fun ⟨c, s', e, ok⟩ => ⟨c, s', (seq_nx o1).trans ((seq_nx o2).trans ((seq_nx o3).trans e)), ok⟩ : (∃ (c : Cm) (s' : SS), _ = Out.rt c.d s' ∧ c.ok A.ar A.n) → _) ?_
  by_cases hp : pick < 3 ∨ ts.length = 0
  · obtain ⟨t, s2, e2, t1, t2⟩ := hg s1
    refine ⟨.put t, s2, seq_rt (s' := s2) ((if_t (s' := s1) ?_).trans ?_), t1, t2⟩
    · by_cases h3 : pick < 3
      · simp [Cs, h3]
      · have hz : ts = [] := List.length_eq_zero_iff.mp (hp.resolve_left h3)
        simp [Cs, h3, hz]
    · simp [Cs, e2, Cm.d]
  · have h3 : ¬ pick < 3 := fun z => hp (.inl z)
    have h4 : ¬ ts.length = 0 := fun z => hp (.inr z)
    refine (fun ⟨c, s', e, ok⟩ => ⟨c, s', (seq_nx (s' := s1) ((if_f (s' := s1) (by simp [Cs, h3]; exact fun z => h4 (by rw [z]; rfl))).trans fNext_)).trans e, ok⟩ : (∃ (c : Cm) (s' : SS), _ = Out.rt c.d s' ∧ c.ok A.ar A.n) → _) ?_
    by_cases h7 : pick < 7
    · obtain ⟨c, s', e, ok⟩ := c_swap hA ht hf hh (a := a) pick s1 (by omega)
      exact ⟨c, s', seq_rt (s' := s') ((if_t (s' := s1) (by simp [Cs, h7])).trans e), ok⟩
    · obtain ⟨c, s', e, ok⟩ := c_rest hA ht hf (a := a) pick s1
      exact ⟨c, s', (seq_nx (s' := s1) ((if_f (s' := s1) (by simp [Cs, h7])).trans fNext_)).trans e, ok⟩
end
theorem command_draw {A : Au} {ts : List T} (hA : A.ok) (ha : ArOk A.ar) (ht : TsOk A.ar ts) (ω : SO) (s : SS) : ∃ (c : Cm) (s' : SS), m_L_command ω [.h ω.ps, A.d, trd ts] s = some (c.d, s') ∧ c.ok A.ar A.n := by
  obtain ⟨c, s', e, ok⟩ := c_all (f := m_L_next ω) (g := m_L_tree 20 ω) (h := m_L_places_of ω) (a := ω.ps) hA ht (fun many s h1 h2 => next_m ω h1 h2 s)
    (fun s => by
      obtain ⟨t, s', e, h1, h2⟩ := tree_draw ha ω 20 7 s (by decide) (by decide) (by decide)
      exact ⟨t, s', e, h1, by omega⟩)
    (fun t h s => places_draw ω (ht.ok t h).2 s) s
  refine ⟨c, s', runW_rt (n := 14) (f := F_L_command ω) (xs := [.h ω.ps, A.d, trd ts]) ?_, ok⟩
  rw [FC_eq]
  exact e
end K7
namespace K7
open PySem L2
section
variable (f : List D → SS → Option (D × SS))
def fE0 : SF SS := fApp 5 (fCallW 2 f (aCons (fN 0) (aCons (fN 4) aNil)))
def fE1 : SF SS := fApp 5 (fUn dTuple (fLc (sRg1 (fNw 4)) (gN 7) fYes (fCallW 2 f (aCons (fN 0) (aCons (fN 4) aNil))) [7]))
def fE2 : SF SS := fApp 5 (fUn dTuple (fLc (sRg1 (fNw 4)) (gN 7) fYes (fUn dTuple (fLc (sRg1 (fNw 4)) (gN 8) fYes (fCallW 2 f (aCons (fN 0) (aCons (fN 4) aNil))) [8])) [7]))
def fEs : SF SS := fIf (fT (fBin dEq (fNw 6) (fC (.int 0)))) (fE0 f) (fIf (fT (fBin dEq (fNw 6) (fC (.int 1)))) (fE1 f) (fE2 f))
def fEg : EF SS := fUn dTuple (fLc (sRg1 (fNw 4)) (gN 7) fYes (fBin dEq (fCallW 2 f (aCons (fN 0) (aCons (fC (.int 3)) aNil))) (fC (.int 0))) [7])
def FA : SF SS := fSeq (fAsg (fBin dAdd (fNw 2) (fCallW 2 f (aCons (fN 0) (aCons (fBin dAdd (fBin dSub (fNw 3) (fNw 2)) (fC (.int 1))) aNil)))) (gN 4))
  (fSeq (fOwn 5 aNil) (fSeq (fFor (sSeq (fN 1)) (gN 6) (fEs f)) (fSeq (fAsg (fEg f) (gN 9)) (fRet (fTup (aCons (fN 1) (aCons (fN 9) (aCons (fUn dTuple (fNw 5)) aNil))))))))
end
theorem FA_eq (ω : SO) : F_L_automaton ω = FA (m_L_next ω) := rfl
/-- the slots of _law_automaton -/
def As (a : Addr) (ar : List Int) (n : Int) (x5 x6 x7 x8 x9 : SV) : List SV := [.im (.h a), .im (pd ar), .im (.int 1), .im (.int 4), .im (.int n), x5, x6, x7, x8, x9]
section
variable {f : List D → SS → Option (D × SS)} {a : Addr}
  (hf : ∀ (many : Int) (s : SS), 1 ≤ many → many ≤ 1000 → ∃ d s', f [.h a, .int many] s = some (.int d, s') ∧ 0 ≤ d ∧ d < many)
include hf
theorem a_row {ar : List Int} {n : Nat} (h1 : 1 ≤ n) (h4 : n ≤ 4) (x5 x6 x7 : SV) (s : SS) : ∃ (r : List Int) (s' : SS), (fUn dTuple (fLc (sRg1 (fNw 4)) (gN 8) fYes (fCallW 2 f (aCons (fN 0) (aCons (fN 4) aNil))) [8]) : EF SS) (As a ar n x5 x6 x7 .un .un) s = some (pd r, s') ∧ r.length = n ∧ ∀ q ∈ r, InR n q := by
  obtain ⟨r, s', e, hl, hr⟩ := lc_draw (α := Int) (enc := D.int) (P := InR n) (fe := fCallW 2 f (aCons (fN 0) (aCons (fN 4) aNil))) (i := 8) (ρ := As a ar n x5 x6 x7 .un .un) (fun dd s => by
    obtain ⟨q, s', e, q0, q1⟩ := hf (n : Int) s (by omega) (by omega)
    exact ⟨q, s', by simp [As, e], q0, q1⟩) (rgD 0 n) s
  rw [rgD_len] at hl
  refine ⟨r, s', ?_, hl, hr⟩
  rw [fUn_, fLc_, if_pos (by rfl), rg_of (s' := s) n (by omega) (by simp [As]), Option.bind_some, if_pos (by rw [rgD_len]; omega)]
  have e' : lcGo (gN 8) fYes (fCallW 2 f (aCons (fN 0) (aCons (fN 4) aNil))) (wipeS (As a ar n x5 x6 x7 .un .un) [8]) (rgD 0 n) s = some (r.map D.int, s') := e
  rw [e']
  rfl
theorem a_row7 {ar : List Int} {n : Nat} (h1 : 1 ≤ n) (h4 : n ≤ 4) (x5 x6 : SV) (s : SS) : ∃ (r : List Int) (s' : SS), (fUn dTuple (fLc (sRg1 (fNw 4)) (gN 7) fYes (fCallW 2 f (aCons (fN 0) (aCons (fN 4) aNil))) [7]) : EF SS) (As a ar n x5 x6 .un .un .un) s = some (pd r, s') ∧ r.length = n ∧ ∀ q ∈ r, InR n q := by
  obtain ⟨r, s', e, hl, hr⟩ := lc_draw (α := Int) (enc := D.int) (P := InR n) (fe := fCallW 2 f (aCons (fN 0) (aCons (fN 4) aNil))) (i := 7) (ρ := As a ar n x5 x6 .un .un .un) (fun dd s => by
    obtain ⟨q, s', e, q0, q1⟩ := hf (n : Int) s (by omega) (by omega)
    exact ⟨q, s', by simp [As, e], q0, q1⟩) (rgD 0 n) s
  rw [rgD_len] at hl
  refine ⟨r, s', ?_, hl, hr⟩
  rw [fUn_, fLc_, if_pos (by rfl), rg_of (s' := s) n (by omega) (by simp [As]), Option.bind_some, if_pos (by rw [rgD_len]; omega)]
  have e' : lcGo (gN 7) fYes (fCallW 2 f (aCons (fN 0) (aCons (fN 4) aNil))) (wipeS (As a ar n x5 x6 .un .un .un) [7]) (rgD 0 n) s = some (r.map D.int, s') := e
  rw [e']
  rfl
theorem a_rows {ar : List Int} {n : Nat} (h1 : 1 ≤ n) (h4 : n ≤ 4) (x5 x6 : SV) (s : SS) : ∃ (r : List (List Int)) (s' : SS), (fUn dTuple (fLc (sRg1 (fNw 4)) (gN 7) fYes (fUn dTuple (fLc (sRg1 (fNw 4)) (gN 8) fYes (fCallW 2 f (aCons (fN 0) (aCons (fN 4) aNil))) [8])) [7]) : EF SS) (As a ar n x5 x6 .un .un .un) s = some (.tup (r.map pd), s') ∧ r.length = n ∧ ∀ q ∈ r, q.length = n ∧ ∀ z ∈ q, InR n z := by
  obtain ⟨r, s', e, hl, hr⟩ := lc_draw (α := List Int) (enc := pd) (P := fun q => q.length = n ∧ ∀ z ∈ q, InR n z) (fe := fUn dTuple (fLc (sRg1 (fNw 4)) (gN 8) fYes (fCallW 2 f (aCons (fN 0) (aCons (fN 4) aNil))) [8])) (i := 7) (ρ := As a ar n x5 x6 .un .un .un) (fun dd s => a_row hf h1 h4 x5 x6 (.im dd) s) (rgD 0 n) s
  rw [rgD_len] at hl
  refine ⟨r, s', ?_, hl, hr⟩
  rw [fUn_, fLc_, if_pos (by rfl), rg_of (s' := s) n (by omega) (by simp [As]), Option.bind_some, if_pos (by rw [rgD_len]; omega)]
  have e' : lcGo (gN 7) fYes (fUn dTuple (fLc (sRg1 (fNw 4)) (gN 8) fYes (fCallW 2 f (aCons (fN 0) (aCons (fN 4) aNil))) [8])) (wipeS (As a ar n x5 x6 .un .un .un) [7]) (rgD 0 n) s = some (r.map pd, s') := e
  rw [e']
  rfl
theorem a_en {ar : List Int} {n : Nat} (h1 : 1 ≤ n) (h4 : n ≤ 4) {k : Int} (hk : k = 0 ∨ k = 1 ∨ k = 2) {es : List En} (hl : es.length ≤ 100) (s : SS) : ∃ (e : En) (s' : SS), fEs f (As a ar n (.ow (es.map En.d)) (.im (.int k)) .un .un .un) s = .nx (As a ar n (.ow ((es ++ [e]).map En.d)) (.im (.int k)) .un .un .un) s' ∧ e.ok n k := by
  have hm : (es.map En.d).length < 100000 := by rw [List.length_map]; omega
  have ap : ∀ {fe : EF SS} {e : En} {s' : SS}, fe (As a ar n (.ow (es.map En.d)) (.im (.int k)) .un .un .un) s = some (e.d, s') → fApp 5 fe (As a ar n (.ow (es.map En.d)) (.im (.int k)) .un .un .un) s = .nx (As a ar n (.ow ((es ++ [e]).map En.d)) (.im (.int k)) .un .un .un) s' := by
    intro fe e s' h
    rw [fApp_, h]
    show (if (es.map En.d).length < 100000 then _ else _) = _
    rw [if_pos hm, List.map_append]
    rfl
  rcases hk with rfl | rfl | rfl
  · obtain ⟨q, s', e, q0, q1⟩ := hf (n : Int) s (by omega) (by omega)
    exact ⟨.e0 q, s', (if_t (s' := s) (by simp [As])).trans (ap (e := .e0 q) (by simp [As, e, En.d])), rfl, q0, q1⟩
  · obtain ⟨r, s', e, r1, r2⟩ := a_row7 hf (ar := ar) h1 h4 (.ow (es.map En.d)) (.im (.int 1)) s
    exact ⟨.e1 r, s', (if_f (s' := s) (by simp [As])).trans ((if_t (s' := s) (by simp [As])).trans (ap (e := .e1 r) e)), rfl, r1, r2⟩
  · obtain ⟨r, s', e, r1, r2⟩ := a_rows hf (ar := ar) h1 h4 (.ow (es.map En.d)) (.im (.int 2)) s
    exact ⟨.e2 r, s', (if_f (s' := s) (by simp [As])).trans ((if_f (s' := s) (by simp [As])).trans (ap (e := .e2 r) e)), rfl, r1, r2⟩
theorem a_ens {ar : List Int} {n : Nat} (h1 : 1 ≤ n) (h4 : n ≤ 4) : ∀ (ks : List Int) (es : List En) (x6 : SV) (s : SS), (∀ k ∈ ks, k = 0 ∨ k = 1 ∨ k = 2) → es.length + ks.length ≤ 100 →
    ∃ (e2 : List En) (y6 : SV) (s' : SS), forGo (gN 6) (fEs f) (ks.map D.int) (As a ar n (.ow (es.map En.d)) x6 .un .un .un) s = .nx (As a ar n (.ow ((es ++ e2).map En.d)) y6 .un .un .un) s' ∧ e2.length = ks.length ∧ ∀ (i : Nat) k e, ks[i]? = some k → e2[i]? = some e → e.ok n k
  | [], es, x6, s, _, _ => ⟨[], x6, s, by rw [List.append_nil]; rfl, rfl, fun i k e h => by simp at h⟩
  | k :: ks, es, x6, s, hk, hl => by
    rw [List.length_cons] at hl
    obtain ⟨e, s1, e1, ok⟩ := a_en hf (ar := ar) h1 h4 (hk k List.mem_cons_self) (es := es) (by omega) s
    obtain ⟨e2, y6, s2, e3, l2, ok2⟩ := a_ens h1 h4 ks (es ++ [e]) (.im (.int k)) s1 (fun k h => hk k (List.mem_cons_of_mem _ h)) (by rw [List.length_append]; simp; omega)
    refine ⟨e :: e2, y6, s2, ?_, by simp [l2], fun i k' e' hi he => ?_⟩
    · rw [show es ++ e :: e2 = (es ++ [e]) ++ e2 by simp]
      exact (go_nx (d := .int k) (ρ1 := As a ar n (.ow (es.map En.d)) (.im (.int k)) .un .un .un) rfl e1).trans e3
    · cases i with
      | zero =>
        simp at hi he
        subst hi
        subst he
        exact ok
      | succ i =>
        simp at hi he
        exact ok2 i k' e' hi he
theorem a_good {ar : List Int} {n : Nat} (h1 : 1 ≤ n) (h4 : n ≤ 4) (x5 x6 : SV) (s : SS) : ∃ (r : List Bool) (s' : SS), fEg f (As a ar n x5 x6 .un .un .un) s = some (.tup (r.map D.bl), s') ∧ r.length = n := by
  obtain ⟨r, s', e, hl, _⟩ := lc_draw (α := Bool) (enc := D.bl) (P := fun _ => True) (fe := fBin dEq (fCallW 2 f (aCons (fN 0) (aCons (fC (.int 3)) aNil))) (fC (.int 0))) (i := 7) (ρ := As a ar n x5 x6 .un .un .un) (fun dd s => by
    obtain ⟨q, s', e, q0, q1⟩ := hf 3 s (by decide) (by decide)
    exact ⟨decide (q = 0), s', by simp [As, e], trivial⟩) (rgD 0 n) s
  rw [rgD_len] at hl
  refine ⟨r, s', ?_, hl⟩
  unfold fEg
  rw [fUn_, fLc_, if_pos (by rfl), rg_of (s' := s) n (by omega) (by simp [As]), Option.bind_some, if_pos (by rw [rgD_len]; omega)]
  have e' : lcGo (gN 7) fYes (fBin dEq (fCallW 2 f (aCons (fN 0) (aCons (fC (.int 3)) aNil))) (fC (.int 0))) (wipeS (As a ar n x5 x6 .un .un .un) [7]) (rgD 0 n) s = some (r.map D.bl, s') := e
  rw [e']
  rfl
theorem a_all {ar : List Int} (ha : ArOk ar) (s : SS) : ∃ (A : Au) (s' : SS), FA f [.im (.h a), .im (pd ar), .im (.int 1), .im (.int 4), .un, .un, .un, .un, .un, .un] s = .rt A.d s' ∧ A.ok ∧ A.ar = ar := by
  obtain ⟨d, s1, e1, d0, d1⟩ := hf 4 s (by decide) (by decide)
  have hal := ha.l
  have hn : ∃ n : Nat, 1 + d = (n : Int) := ⟨(1 + d).toNat, by omega⟩
  obtain ⟨n, hn⟩ := hn
  have h1 : 1 ≤ n := by omega
  have h4 : n ≤ 4 := by omega
  obtain ⟨es, y6, s2, e2, l2, ok2⟩ := a_ens hf (ar := ar) h1 h4 ar [] .un s1 ha.r (by simp; omega)
  obtain ⟨gs, s3, e3, l3⟩ := a_good hf (ar := ar) h1 h4 (.ow (es.map En.d)) y6 s2
  have hA : (⟨ar, gs, es⟩ : Au).ok := ⟨hal, by show 1 ≤ gs.length ∧ gs.length ≤ 4; omega, l2, fun i k e hk he => by
    show e.ok gs.length k
    rw [l3]
    exact ok2 i k e hk he⟩
  refine ⟨⟨ar, gs, es⟩, s3, ?_, hA, rfl⟩
  refine (seq_nx (ρ' := As a ar n .un .un .un .un .un) (s' := s1) (by simp [e1, hn, As])).trans ?_
  refine (seq_nx (ρ' := As a ar n (.ow (([] : List En).map En.d)) .un .un .un .un) (s' := s1) (by simp [As])).trans ?_
  refine (seq_nx (ρ' := As a ar n (.ow (es.map En.d)) y6 .un .un .un) (s' := s2) ?_).trans ?_
  · refine (for_go (ds := ar.map D.int) (s' := s1) (seqq_of (d := pd ar) rfl rfl)).trans ?_
    exact e2
  refine (seq_nx (ρ' := As a ar n (.ow (es.map En.d)) y6 .un .un (.im (.tup (gs.map D.bl)))) (s' := s3) (set_of e3)).trans ?_
  simp [As, Au.d]
end
theorem automaton_draw {ar : List Int} (ha : ArOk ar) (ω : SO) (s : SS) : ∃ (A : Au) (s' : SS), m_L_automaton ω [.h ω.ps, pd ar, .int 1, .int 4] s = some (A.d, s') ∧ A.ok ∧ A.ar = ar := by
  obtain ⟨A, s', e, h1, h2⟩ := a_all (f := m_L_next ω) (a := ω.ps) (fun many s h1 h2 => next_m ω h1 h2 s) ha s
  refine ⟨A, s', runW_rt (n := 10) (f := F_L_automaton ω) (xs := [.h ω.ps, pd ar, .int 1, .int 4]) ?_, h1, h2⟩
  rw [FA_eq]
  exact e
end K7
end
section
set_option maxRecDepth 100000
/-! K76, plain law, part u: what is compared; the steps of the law's loop. -/
namespace K7
open PySem L2
theorem ints_pln (r : List Int) : plnL (r.map D.int) = true := plnL_of fun x hx => by
  obtain ⟨i, _, rfl⟩ := List.mem_map.mp hx
  rfl
theorem ints_dep (r : List Int) : depL (r.map D.int) ≤ 0 := depL_le fun x hx => by
  obtain ⟨i, _, rfl⟩ := List.mem_map.mp hx
  exact Nat.le_refl _
theorem tup_ok {xs : List D} {n : Nat} (hl : xs.length ≤ 1000) (h : ∀ x ∈ xs, pln x = true ∧ dep x ≤ n) : pln (.tup xs) = true ∧ dep (.tup xs) ≤ n + 1 := by
  refine ⟨?_, ?_⟩
  · rw [pln, Bool.and_eq_true, decide_eq_true_eq]
    exact ⟨hl, plnL_of fun x hx => (h x hx).1⟩
  · rw [dep]
    have := depL_le fun x hx => (h x hx).2
    omega
theorem lst_ok {xs : List D} {n : Nat} (hl : xs.length ≤ 1000) (h : ∀ x ∈ xs, pln x = true ∧ dep x ≤ n) : pln (.lst xs) = true ∧ dep (.lst xs) ≤ n + 1 := by
  refine ⟨?_, ?_⟩
  · rw [pln, Bool.and_eq_true, decide_eq_true_eq]
    exact ⟨hl, plnL_of fun x hx => (h x hx).1⟩
  · rw [dep]
    have := depL_le fun x hx => (h x hx).2
    omega
theorem int_ok {i : Int} {n : Nat} : pln (.int i) = true ∧ dep (.int i) ≤ n := ⟨rfl, Nat.zero_le _⟩
theorem bl_ok {i : Bool} {n : Nat} : pln (.bl i) = true ∧ dep (.bl i) ≤ n := ⟨rfl, Nat.zero_le _⟩
theorem str_ok {i : Str} {n : Nat} : pln (.str i) = true ∧ dep (.str i) ≤ n := ⟨rfl, Nat.zero_le _⟩
theorem pd_ok {r : List Int} (h : r.length ≤ 1000) {n : Nat} : pln (pd r) = true ∧ dep (pd r) ≤ n + 1 := tup_ok (by rw [List.length_map]; exact h) fun x hx => by
  obtain ⟨i, _, rfl⟩ := List.mem_map.mp hx
  exact int_ok
theorem mono_ok {d : D} {m n : Nat} (h : pln d = true ∧ dep d ≤ m) (hl : m ≤ n) : pln d = true ∧ dep d ≤ n := ⟨h.1, Nat.le_trans h.2 hl⟩
theorem T.d_ok (t : T) : pln t.d = true ∧ dep t.d ≤ t.size := by
  induction t with
  | a s => exact tup_ok (xs := [.int s]) (n := 0) (by simp) (by simp only [List.forall_mem_cons]; exact ⟨int_ok, fun _ h => nomatch h⟩)
  | b s x ih =>
    have := tup_ok (xs := [.int s, x.d]) (n := x.size) (by simp) (by simp only [List.forall_mem_cons]; exact ⟨int_ok, ih, fun _ h => nomatch h⟩)
    exact mono_ok this (by simp [T.size]; omega)
  | c s x y ih1 ih2 =>
    have := tup_ok (xs := [.int s, x.d, y.d]) (n := x.size + y.size) (by simp) (by simp only [List.forall_mem_cons]; exact ⟨int_ok, mono_ok ih1 (by omega), mono_ok ih2 (by omega), fun _ h => nomatch h⟩)
    exact mono_ok this (by simp [T.size]; omega)
theorem trd_ok {ar : List Int} {ts : List T} (ht : TsOk ar ts) : pln (trd ts) = true ∧ dep (trd ts) ≤ 16 := tup_ok (by rw [List.length_map]; have := ht.tl; omega) fun x hx => by
  obtain ⟨t, h, rfl⟩ := List.mem_map.mp hx
  exact mono_ok t.d_ok (ht.ok t h).2
theorem En.d_ok {n : Nat} (hn : n ≤ 4) {a : Int} {e : En} (h : e.ok n a) : pln e.d = true ∧ dep e.d ≤ 2 := by
  cases e with
  | e0 q => exact int_ok
  | e1 r => exact pd_ok (by have := h.2.1; omega)
  | e2 rs =>
    refine tup_ok (by rw [List.length_map]; have := h.2.1; omega) fun x hx => ?_
    obtain ⟨r, hr, rfl⟩ := List.mem_map.mp hx
    exact pd_ok (by have := (h.2.2 r hr).1; omega)
theorem Au.d_ok {A : Au} (hA : A.ok) : pln A.d = true ∧ dep A.d ≤ 4 := by
  refine tup_ok (by simp) ?_
  simp only [List.forall_mem_cons]
  refine ⟨pd_ok (by have := hA.al; omega), tup_ok (by rw [List.length_map]; have : A.good.length ≤ 4 := hA.gl.2; omega) fun x hx => ?_, tup_ok (by rw [List.length_map, hA.sl]; have := hA.al; omega) fun x hx => ?_, fun _ h => nomatch h⟩
  · obtain ⟨b, _, rfl⟩ := List.mem_map.mp hx
    exact bl_ok
  · obtain ⟨e, he, rfl⟩ := List.mem_map.mp hx
    obtain ⟨i, hi⟩ := List.mem_iff_getElem?.mp he
    have hl : i < A.ar.length := by
      rw [← hA.sl]
      exact (List.getElem?_eq_some_iff.mp hi).1
    exact En.d_ok hA.gl.2 (hA.en i _ e (List.getElem?_eq_getElem hl) hi)
theorem Cm.d_ok {ar : List Int} {n : Nat} {c : Cm} (ha : ar.all (fun a => decide (a ≤ 2)) = true) (h : c.ok ar n) : pln c.d = true ∧ dep c.d ≤ 16 := by
  cases c with
  | put t => exact tup_ok (xs := [.str "put", t.d]) (by simp) (by simp only [List.forall_mem_cons]; exact ⟨str_ok, mono_ok t.d_ok h.2, fun _ h => nomatch h⟩)
  | swap i p j q =>
    obtain ⟨_, _, _, _, _, h1, _, h2⟩ := h
    exact tup_ok (xs := [.str "swap", .int i, pd p, .int j, pd q]) (by simp) (by simp only [List.forall_mem_cons]; exact ⟨str_ok, int_ok, pd_ok (by omega), int_ok, pd_ok (by omega), fun _ h => nomatch h⟩)
  | take i => exact tup_ok (xs := [.str "take", .int i]) (by simp) (by simp only [List.forall_mem_cons]; exact ⟨str_ok, int_ok, fun _ h => nomatch h⟩)
  | good q b => exact tup_ok (xs := [.str "good", .int q, .bl b]) (by simp) (by simp only [List.forall_mem_cons]; exact ⟨str_ok, int_ok, bl_ok, fun _ h => nomatch h⟩)
  | step s row q =>
    have h1 : (row.length : Int) ≤ 2 := by
      have := List.all_eq_true.mp ha _ (List.mem_of_getElem? h.2.1)
      simpa using this
    exact tup_ok (xs := [.str "step", .int s, pd row, .int q]) (by simp) (by simp only [List.forall_mem_cons]; exact ⟨str_ok, int_ok, pd_ok (by omega), int_ok, fun _ h => nomatch h⟩)
/-! ### the law's world -/
abbrev LS := (Int × Nat) × GS
def lS1 (ω : LO) (n : Nat) (m : List D → (Int × Nat) → Option (D × (Int × Nat))) (fs : AF LS) : EF LS := fCallS (E1 ω) n m fs
def lS2 (ω : LO) (n : Nat) (m : List D → GS → Option (D × GS)) (fs : AF LS) : EF LS := fCallS (E2 ω) n m fs
def lM (ω : LO) (n : Nat) (m : List D → GS → Option (D × GS)) (fo : EF LS) (fs : AF LS) : EF LS := fMeth (E2 ω) n m fo fs
section
variable {ω : LO} {n : Nat} {ρ : List SV} {s : LS} {d : D} {ds : List D} {fs : AF LS} {fo : EF LS}
theorem lS1_of {m : List D → (Int × Nat) → Option (D × (Int × Nat))} {t : Int × Nat} (h1 : fs ρ s = some (ds, s)) (hn : ds.length = n) (h2 : m ds s.1 = some (d, t)) : lS1 ω n m fs ρ s = some (d, (t, s.2)) := by
  show (fs ρ s).bind _ = _
  rw [h1]
  show (if ds.length = n then _ else _) = _
  rw [if_pos hn]
  show (m ds s.1).map _ = _
  rw [h2]
  rfl
theorem lS2_of {m : List D → GS → Option (D × GS)} {t : GS} (h1 : fs ρ s = some (ds, s)) (hn : ds.length = n) (h2 : m ds s.2 = some (d, t)) : lS2 ω n m fs ρ s = some (d, (s.1, t)) := by
  show (fs ρ s).bind _ = _
  rw [h1]
  show (if ds.length = n then _ else _) = _
  rw [if_pos hn]
  show (m ds s.2).map _ = _
  rw [h2]
  rfl
theorem lM_of {m : List D → GS → Option (D × GS)} {t : GS} (h1 : fo ρ s = some (.h ω.g.pg, s)) (h2 : fs ρ s = some (ds, s)) (hn : ds.length + 1 = n) (h3 : m (.h ω.g.pg :: ds) s.2 = some (d, t)) : lM ω n m fo fs ρ s = some (d, (s.1, t)) := by
  show (fo ρ s).bind _ = _
  rw [h1]
  show (if isH ω.g.pg (.h ω.g.pg) = true then _ else _) = _
  rw [if_pos isHt]
  show (fs ρ s).bind _ = _
  rw [h2]
  show (if ds.length + 1 = n then _ else _) = _
  rw [if_pos hn]
  show (m _ s.2).map _ = _
  rw [h3]
  rfl
theorem eqT_of {m : List D → Option D} {s' : LS} (h : fs ρ s = some (ds, s')) (hn : ds.length = 2) (e : m ds = some (.bl true)) : fNotT (fTru (fCall 2 m fs)) ρ s = some (false, s') := by
  rw [fNotT_, fTru_, call_of h hn e]
  rfl
end
section
variable (ω : LO) (nxt : List D → (Int × Nat) → Option (D × (Int × Nat))) (cmd : List D → (Int × Nat) → Option (D × (Int × Nat))) (wy bh eq st li : List D → Option D) (told aut tre jou sts gd lin : List D → GS → Option (D × GS))
def L1 : SF LS := fIf (fNotT (fTru (fCall 2 eq (aCons (lS2 ω 2 told (aCons (fN 3) (aCons (fN 7) aNil))) (aCons (fN 8) aNil))))) (fRet (fC (.bl false))) fNext
def L2' : SF LS := fIf (fNotT (fTru (fCall 2 eq (aCons (fLst (aCons (lM ω 1 aut (fN 3) aNil) (aCons (lM ω 1 tre (fN 3) aNil) (aCons (lM ω 1 jou (fN 3) aNil) aNil)))) (aCons (fLst (aCons (fBin dItem (fNw 4) (fC (.int 0))) (aCons (fBin dItem (fNw 4) (fC (.int 1))) (aCons (fN 5) aNil)))) aNil))))) (fRet (fC (.bl false))) fNext
def L3 : SF LS := fIf (fT (fBin dEq (fNw 8) (fC (.str "")))) (fSeq (fAsg (fCall 3 bh (aCons (fBin dItem (fNw 4) (fC (.int 0))) (aCons (fBin dItem (fNw 4) (fC (.int 1))) (aCons (fN 7) aNil)))) (gN 4))
  (fSeq (fAsg (fBin dAdd (fNw 5) (fTup (aCons (fN 7) aNil))) (gN 5)) (fAsg (fUn dLen (fNw 5)) (gN 8)))) (fAsg (fTup (aCons (fC (.str "not")) (aCons (fN 8) aNil))) (gN 8))
def LB : SF LS := fSeq (fAsg (lS1 ω 3 cmd (aCons (fN 1) (aCons (fN 2) (aCons (fBin dItem (fNw 4) (fC (.int 1))) aNil)))) (gN 7))
  (fSeq (fAsg (fCall 2 wy (aCons (fBin dItem (fNw 4) (fC (.int 1))) (aCons (fN 7) aNil))) (gN 8)) (fSeq (L3 bh) (fSeq (L1 ω eq told) (L2' ω eq aut tre jou))))
def LG : EF LS := fUn dTuple (fLc (sRg1 (fUn dLen (fNw 9))) (gN 11) (fTru (fBin dItem (fBin dItem (fBin dItem (fNw 4) (fC (.int 0))) (fC (.int 1))) (fBin dItem (fNw 9) (fNw 11)))) (fN 11) [11])
def LD : EF LS := fBin dItem (fLst (aCons (fC (.int 1)) (aCons (fC (.int 2)) (aCons (fC (.int 3)) (aCons (fBin dAdd (fC (.int 4)) (lS1 ω 2 nxt (aCons (fN 1) (aCons (fC (.int 9)) aNil)))) aNil))))) (lS1 ω 2 nxt (aCons (fN 1) (aCons (fC (.int 4)) aNil)))
def LI : EF LS := fUn dTuple (fLc (sRg1 (fUn dLen (fNw 9))) (gN 11) (fTru (fCall 3 li (aCons (fBin dItem (fNw 4) (fC (.int 0))) (aCons (fN 12) (aCons (fBin dItem (fBin dItem (fNw 4) (fC (.int 1))) (fNw 11)) aNil))))) (fN 11) [11])
def LZ : SF LS := fRet (fCall 2 eq (aCons (fLst (aCons (lM ω 1 sts (fN 3) aNil) (aCons (lM ω 1 gd (fN 3) aNil) (aCons (lM ω 2 lin (fN 3) (aCons (fN 12) aNil)) aNil)))) (aCons (fLst (aCons (fN 9) (aCons (fN 10) (aCons (fN 13) aNil)))) aNil)))
def LE : SF LS := fSeq (fAsg (fCall 2 st (aCons (fBin dItem (fNw 4) (fC (.int 0))) (aCons (fBin dItem (fNw 4) (fC (.int 1))) aNil))) (gN 9)) (fSeq (fAsg LG (gN 10)) (fSeq (fAsg (LD ω nxt) (gN 12)) (fSeq (fAsg (LI li) (gN 13)) (LZ ω eq sts gd lin))))
def LF : SF LS := fSeq (fAsg (fTup (aCons (fN 2) (aCons (fTup aNil) aNil))) (gN 4)) (fSeq (fAsg (fTup aNil) (gN 5))
  (fSeq (fFor (sRg1 (lS1 ω 2 nxt (aCons (fN 1) (aCons (fC (.int 19)) aNil)))) (gN 6) (LB ω cmd wy bh eq told aut tre jou)) (LE ω nxt eq st li sts gd lin)))
end
theorem LF_eq (ω : LO) : F_law ω = LF ω (m_L_next ω.s) (m_L_command ω.s) m_L_why_not m_L_behind (m_L_equal 30) m_L_states m_L_let_in (m_L_told ω.g) (m_G_automaton ω.g) (m_G_trees ω.g) (m_G_journal ω.g) (m_G_states ω.g) (m_G_good ω.g) (m_G_let_in ω.g) := rfl
/-- the law's slots -/
def Lr (ω : LO) (F S J : D) (x6 x7 x8 x9 x10 x12 x13 : SV) : List SV := [.un, .im (.h ω.s.ps), .im F, .im (.h ω.g.pg), .im S, .im J, x6, x7, x8, x9, x10, .un, x12, x13]
section
variable {ω : LO} {nxt : List D → (Int × Nat) → Option (D × (Int × Nat))} {cmd : List D → (Int × Nat) → Option (D × (Int × Nat))} {wy bh eq st li : List D → Option D} {told aut tre jou sts gd lin : List D → GS → Option (D × GS)}
  {F J c due a b : D} {x6 x7 x8 x9 x10 x12 x13 : SV} {t t1 : Int × Nat} {g g' : GS}
theorem L1_go (h1 : told [.h ω.g.pg, c] g = some (due, g')) (h2 : eq [due, due] = some (.bl true)) : L1 ω eq told (Lr ω F (.tup [a, b]) J x6 (.im c) (.im due) x9 x10 x12 x13) (t, g) = .nx (Lr ω F (.tup [a, b]) J x6 (.im c) (.im due) x9 x10 x12 x13) (t, g') := by
  have e1 : lS2 ω 2 told (aCons (fN 3) (aCons (fN 7) aNil)) (Lr ω F (.tup [a, b]) J x6 (.im c) (.im due) x9 x10 x12 x13) (t, g) = some (due, (t, g')) := lS2_of (s := (t, g)) (ds := [.h ω.g.pg, c]) rfl rfl h1
  exact (if_f (s' := (t, g')) (eqT_of (ds := [due, due]) (acons_of e1 rfl) rfl h2)).trans rfl
theorem L2_go (h1 : aut [.h ω.g.pg] g = some (a, g)) (h2 : tre [.h ω.g.pg] g = some (b, g)) (h3 : jou [.h ω.g.pg] g = some (J, g)) (h4 : eq [.lst [a, b, J], .lst [a, b, J]] = some (.bl true)) :
    L2' ω eq aut tre jou (Lr ω F (.tup [a, b]) J x6 x7 x8 x9 x10 x12 x13) (t, g) = .nx (Lr ω F (.tup [a, b]) J x6 x7 x8 x9 x10 x12 x13) (t, g) := by
  have e1 : lM ω 1 aut (fN 3) aNil (Lr ω F (.tup [a, b]) J x6 x7 x8 x9 x10 x12 x13) (t, g) = some (a, (t, g)) := lM_of (s := (t, g)) (ds := []) rfl rfl rfl h1
  have e2 : lM ω 1 tre (fN 3) aNil (Lr ω F (.tup [a, b]) J x6 x7 x8 x9 x10 x12 x13) (t, g) = some (b, (t, g)) := lM_of (s := (t, g)) (ds := []) rfl rfl rfl h2
  have e3 : lM ω 1 jou (fN 3) aNil (Lr ω F (.tup [a, b]) J x6 x7 x8 x9 x10 x12 x13) (t, g) = some (J, (t, g)) := lM_of (s := (t, g)) (ds := []) rfl rfl rfl h3
  have e4 : (fLst (aCons (lM ω 1 aut (fN 3) aNil) (aCons (lM ω 1 tre (fN 3) aNil) (aCons (lM ω 1 jou (fN 3) aNil) aNil))) : EF LS) (Lr ω F (.tup [a, b]) J x6 x7 x8 x9 x10 x12 x13) (t, g) = some (.lst [a, b, J], (t, g)) := by
    rw [fLst_, acons_of e1 (acons_of e2 (acons_of e3 aNil_))]
    rfl
  have e5 : (fLst (aCons (fBin dItem (fNw 4) (fC (.int 0))) (aCons (fBin dItem (fNw 4) (fC (.int 1))) (aCons (fN 5) aNil))) : EF LS) (Lr ω F (.tup [a, b]) J x6 x7 x8 x9 x10 x12 x13) (t, g) = some (.lst [a, b, J], (t, g)) := by
    simp [Lr]
  exact (if_f (s' := (t, g)) (eqT_of (ds := [.lst [a, b, J], .lst [a, b, J]]) (acons_of e4 (acons_of e5 aNil_)) rfl h4)).trans rfl
theorem LB_start (h1 : cmd [.h ω.s.ps, F, b] t = some (c, t1)) {y : Str} (h2 : wy [b, c] = some (.str y)) {R : Out LS} (h3 : fSeq (L3 bh) (fSeq (L1 ω eq told) (L2' ω eq aut tre jou)) (Lr ω F (.tup [a, b]) J x6 (.im c) (.im (.str y)) x9 x10 x12 x13) (t1, g) = R) :
    LB ω cmd wy bh eq told aut tre jou (Lr ω F (.tup [a, b]) J x6 x7 x8 x9 x10 x12 x13) (t, g) = R := by
  have e0 : (fBin dItem (fNw 4) (fC (.int 1)) : EF LS) (Lr ω F (.tup [a, b]) J x6 x7 x8 x9 x10 x12 x13) (t, g) = some (b, (t, g)) := by simp [Lr]
  have e1 : lS1 ω 3 cmd (aCons (fN 1) (aCons (fN 2) (aCons (fBin dItem (fNw 4) (fC (.int 1))) aNil))) (Lr ω F (.tup [a, b]) J x6 x7 x8 x9 x10 x12 x13) (t, g) = some (c, (t1, g)) :=
    lS1_of (s := (t, g)) (ds := [.h ω.s.ps, F, b]) (acons_of (s1 := (t, g)) rfl (acons_of (s1 := (t, g)) rfl (acons_of e0 aNil_))) rfl h1
  have e2 : (fBin dItem (fNw 4) (fC (.int 1)) : EF LS) (Lr ω F (.tup [a, b]) J x6 (.im c) x8 x9 x10 x12 x13) (t1, g) = some (b, (t1, g)) := by simp [Lr]
  refine (seq_nx (ρ' := Lr ω F (.tup [a, b]) J x6 (.im c) x8 x9 x10 x12 x13) (s' := (t1, g)) (set_of e1)).trans ?_
  refine (seq_nx (ρ' := Lr ω F (.tup [a, b]) J x6 (.im c) (.im (.str y)) x9 x10 x12 x13) (s' := (t1, g)) (set_of (call_of (xs := [b, c]) (s' := (t1, g)) (acons_of e2 (acons_of (s1 := (t1, g)) rfl aNil_)) rfl h2))).trans h3
theorem L3_in {js : List D} (hl : js.length ≤ 1000) {a' b' : D} (h : bh [a, b, c] = some (.tup [a', b'])) : L3 bh (Lr ω F (.tup [a, b]) (.tup js) x6 (.im c) (.im (.str "")) x9 x10 x12 x13) (t, g) = .nx (Lr ω F (.tup [a', b']) (.tup (js ++ [c])) x6 (.im c) (.im (.int (js.length + 1 : Nat))) x9 x10 x12 x13) (t, g) := by
  refine (if_t (s' := (t, g)) (by simp [Lr])).trans ?_
  refine (seq_nx (ρ' := Lr ω F (.tup [a', b']) (.tup js) x6 (.im c) (.im (.str "")) x9 x10 x12 x13) (s' := (t, g)) (by simp [Lr, h])).trans ?_
  refine (seq_nx (ρ' := Lr ω F (.tup [a', b']) (.tup (js ++ [c])) x6 (.im c) (.im (.str "")) x9 x10 x12 x13) (s' := (t, g)) (by simp [Lr, show js.length ≤ 99999 by omega])).trans ?_
  simp [Lr]
theorem L3_out {y : Str} (hy : y ≠ "") : L3 bh (Lr ω F (.tup [a, b]) J x6 (.im c) (.im (.str y)) x9 x10 x12 x13) (t, g) = .nx (Lr ω F (.tup [a, b]) J x6 (.im c) (.im (.tup [.str "not", .str y])) x9 x10 x12 x13) (t, g) := by
  refine (if_f (s' := (t, g)) (by simp [Lr, hy])).trans ?_
  simp [Lr]
theorem LB_in {js : List D} (hl : js.length ≤ 1000) {a' b' : D} (h1 : cmd [.h ω.s.ps, F, b] t = some (c, t1)) (h2 : wy [b, c] = some (.str "")) (h3 : bh [a, b, c] = some (.tup [a', b'])) (h4 : told [.h ω.g.pg, c] g = some (.int (js.length + 1 : Nat), g')) (h5 : eq [.int (js.length + 1 : Nat), .int (js.length + 1 : Nat)] = some (.bl true))
    (h6 : aut [.h ω.g.pg] g' = some (a', g')) (h7 : tre [.h ω.g.pg] g' = some (b', g')) (h8 : jou [.h ω.g.pg] g' = some (.tup (js ++ [c]), g')) (h9 : eq [.lst [a', b', .tup (js ++ [c])], .lst [a', b', .tup (js ++ [c])]] = some (.bl true)) :
    LB ω cmd wy bh eq told aut tre jou (Lr ω F (.tup [a, b]) (.tup js) x6 x7 x8 x9 x10 x12 x13) (t, g) = .nx (Lr ω F (.tup [a', b']) (.tup (js ++ [c])) x6 (.im c) (.im (.int (js.length + 1 : Nat))) x9 x10 x12 x13) (t1, g') :=
  LB_start h1 h2 ((seq_nx (L3_in hl h3)).trans ((seq_nx (L1_go h4 h5)).trans (L2_go h6 h7 h8 h9)))
theorem LB_out {y : Str} (hy : y ≠ "") (h1 : cmd [.h ω.s.ps, F, b] t = some (c, t1)) (h2 : wy [b, c] = some (.str y)) (h4 : told [.h ω.g.pg, c] g = some (.tup [.str "not", .str y], g)) (h5 : eq [.tup [.str "not", .str y], .tup [.str "not", .str y]] = some (.bl true))
    (h6 : aut [.h ω.g.pg] g = some (a, g)) (h7 : tre [.h ω.g.pg] g = some (b, g)) (h8 : jou [.h ω.g.pg] g = some (J, g)) (h9 : eq [.lst [a, b, J], .lst [a, b, J]] = some (.bl true)) :
    LB ω cmd wy bh eq told aut tre jou (Lr ω F (.tup [a, b]) J x6 x7 x8 x9 x10 x12 x13) (t, g) = .nx (Lr ω F (.tup [a, b]) J x6 (.im c) (.im (.tup [.str "not", .str y])) x9 x10 x12 x13) (t1, g) :=
  LB_start h1 h2 ((seq_nx (L3_out hy)).trans ((seq_nx (L1_go h4 h5)).trans (L2_go h6 h7 h8 h9)))
end
end K7
end
section
set_option maxRecDepth 100000
/-! K76, plain law, part v: the law's loop, its end, the plain law. -/
namespace K7
open PySem L2
theorem callW_of {S : Type} {n : Nat} {m : List D → S → Option (D × S)} {fs : AF S} {ρ : List SV} {s s1 s2 : S} {xs : List D} {d : D} (h1 : fs ρ s = some (xs, s1)) (hn : xs.length = n) (h2 : m xs s1 = some (d, s2)) : fCallW n m fs ρ s = some (d, s2) := by
  rw [fCallW_, h1, Option.bind_some, if_pos hn, h2]
def LBm (ω : LO) : SF LS := LB ω (m_L_command ω.s) m_L_why_not m_L_behind (m_L_equal 30) (m_L_told ω.g) (m_G_automaton ω.g) (m_G_trees ω.g) (m_G_journal ω.g)
/-- what stands behind each turn -/
structure Inv (F0 A : Au) (ts : List T) (cs : List Cm) (g : GS) : Prop where
  ok : A.ok
  ar : F0.ar = A.ar
  n : F0.n = A.n
  tk : TsOk A.ar ts
  ck : ∀ c ∈ cs, c.ok A.ar A.n
  gl : g.1.getLast? = some (.tup [A.d, trd ts])
  gc : g.2 = cs.map Cm.d
  l : g.1.length = cs.length + 1
theorem ar_all {A : Au} (ha : ArOk A.ar) : A.ar.all (fun a => decide (a ≤ 2)) = true := List.all_eq_true.mpr fun a h => by
  rcases ha.r a h with rfl | rfl | rfl <;> decide
theorem cs_ok {A : Au} {cs : List Cm} (ha : ArOk A.ar) (h : ∀ c ∈ cs, c.ok A.ar A.n) (hl : cs.length ≤ 100) : pln (.tup (cs.map Cm.d)) = true ∧ dep (.tup (cs.map Cm.d)) ≤ 17 := tup_ok (by rw [List.length_map]; omega) fun x hx => by
  obtain ⟨c, hc, rfl⟩ := List.mem_map.mp hx
  exact Cm.d_ok (ar_all ha) (h c hc)
theorem all_ok {F0 A : Au} {ts : List T} {cs : List Cm} {g : GS} (ha : ArOk F0.ar) (I : Inv F0 A ts cs g) (hl : cs.length ≤ 100) : m_L_equal 30 [.lst [A.d, trd ts, .tup (cs.map Cm.d)], .lst [A.d, trd ts, .tup (cs.map Cm.d)]] = some (.bl true) := by
  have h := lst_ok (xs := [A.d, trd ts, .tup (cs.map Cm.d)]) (n := 17) (by simp) (by
    simp only [List.forall_mem_cons]
    exact ⟨mono_ok (Au.d_ok I.ok) (by decide), mono_ok (trd_ok I.tk) (by decide), cs_ok (by rw [← I.ar]; exact ha) I.ck hl, fun _ h => nomatch h⟩)
  exact eq_refl 30 _ (by omega) h.1
theorem turn_go (ω : LO) {F0 : Au} (hF : F0.ok) (ha : ArOk F0.ar) (hf : ω.g.first = F0.d) {A : Au} {ts : List T} {cs : List Cm} {g : GS} (I : Inv F0 A ts cs g) (hl : cs.length < 18) (t : Int × Nat) (x6 x7 x8 : SV) :
    ∃ (A' : Au) (ts' : List T) (cs' : List Cm) (g' : GS) (t' : Int × Nat) (y7 y8 : SV), LBm ω (Lr ω F0.d (.tup [A.d, trd ts]) (.tup (cs.map Cm.d)) x6 x7 x8 .un .un .un .un) (t, g) = .nx (Lr ω F0.d (.tup [A'.d, trd ts']) (.tup (cs'.map Cm.d)) x6 y7 y8 .un .un .un .un) (t', g') ∧ Inv F0 A' ts' cs' g' ∧ cs'.length ≤ cs.length + 1 := by
  obtain ⟨c, t1, ec, okc⟩ := command_draw (ts := ts) hF ha (by rw [I.ar]; exact I.tk) ω.s t
  rw [I.ar, I.n] at okc
  have gl2 : g.2.length = cs.length := by rw [I.gc, List.length_map]
  have gl1 := I.l
  rcases behind_m I.ok I.tk okc with ⟨A', ts', b1, b2, b3, ok', ar', n', ht'⟩ | ⟨y, hy, b1, b2⟩
  · have e4 := told_in (ω := ω.g) I.gl hf hF I.ar I.n okc (by omega) (by omega) b1
    have I' : Inv F0 A' ts' (cs ++ [c]) (g.1 ++ [.tup [A'.d, trd ts']], g.2 ++ [c.d]) := by
      refine ⟨ok', I.ar.trans ar'.symm, I.n.trans n'.symm, by rw [ar']; exact ht', fun z hz => ?_, by simp, by simp [I.gc], by simp [gl1]⟩
      rw [ar', n']
      rcases List.mem_append.mp hz with hz | hz
      · exact I.ck z hz
      · rw [List.mem_singleton.mp hz]
        exact okc
    have ej : g.2 ++ [c.d] = cs.map Cm.d ++ [c.d] := by rw [I.gc]
    have el : (g.2.length + 1 : Nat) = ((cs.map Cm.d).length + 1 : Nat) := by rw [gl2, List.length_map]
    rw [el] at e4
    have e8 := G_journal_m (ω := ω.g) (s := (g.1 ++ [.tup [A'.d, trd ts']], g.2 ++ [c.d]))
    have e9 := all_ok ha I' (by rw [List.length_append]; simp; omega)
    have em : (cs ++ [c]).map Cm.d = cs.map Cm.d ++ [c.d] := by rw [List.map_append]; rfl
    rw [em] at e9
    refine ⟨A', ts', cs ++ [c], _, t1, .im c.d, .im (.int ((cs.map Cm.d).length + 1 : Nat)), ?_, I', by rw [List.length_append]; exact Nat.le_refl _⟩
    rw [em]
    have e8' : m_G_journal ω.g [.h ω.g.pg] (g.1 ++ [.tup [A'.d, trd ts']], g.2 ++ [c.d]) = some (.tup (cs.map Cm.d ++ [c.d]), (g.1 ++ [.tup [A'.d, trd ts']], g.2 ++ [c.d])) := by
      rw [← ej]
      exact e8
    exact LB_in (js := cs.map Cm.d) (by rw [List.length_map]; omega) ec b3 b2 e4 (eq_refl 30 _ (Nat.lt_of_le_of_lt (int_ok (n := 0)).2 (by decide)) rfl) (G_automaton_m (ω := ω.g) I'.gl) (G_trees_m (ω := ω.g) I'.gl) e8' e9
  · have e4 := told_out (ω := ω.g) I.gl hf hF I.ar I.n okc (by omega) (by omega) b1
    have e9 := all_ok ha I (by omega)
    have e8 := G_journal_m (ω := ω.g) (s := g)
    rw [I.gc] at e8
    have hn := tup_ok (xs := [.str "not", .str y]) (n := 0) (by simp) (by simp only [List.forall_mem_cons]; exact ⟨str_ok, str_ok, fun _ h => nomatch h⟩)
    exact ⟨A, ts, cs, g, t1, .im c.d, .im (.tup [.str "not", .str y]), LB_out hy ec b2 e4 (eq_refl 30 _ (by omega) hn.1) (G_automaton_m (ω := ω.g) I.gl) (G_trees_m (ω := ω.g) I.gl) e8 e9, I, by omega⟩
theorem loop_go (ω : LO) {F0 : Au} (hF : F0.ok) (ha : ArOk F0.ar) (hf : ω.g.first = F0.d) : ∀ (ds : List D) {A : Au} {ts : List T} {cs : List Cm} {g : GS}, Inv F0 A ts cs g → cs.length + ds.length ≤ 18 → ∀ (t : Int × Nat) (x6 x7 x8 : SV),
    ∃ (A' : Au) (ts' : List T) (cs' : List Cm) (g' : GS) (t' : Int × Nat) (y6 y7 y8 : SV), forGo (gN 6) (LBm ω) ds (Lr ω F0.d (.tup [A.d, trd ts]) (.tup (cs.map Cm.d)) x6 x7 x8 .un .un .un .un) (t, g) = .nx (Lr ω F0.d (.tup [A'.d, trd ts']) (.tup (cs'.map Cm.d)) y6 y7 y8 .un .un .un .un) (t', g') ∧ Inv F0 A' ts' cs' g'
  | [], A, ts, cs, g, I, _, t, x6, x7, x8 => ⟨A, ts, cs, g, t, x6, x7, x8, rfl, I⟩
  | d :: ds, A, ts, cs, g, I, hl, t, x6, x7, x8 => by
    rw [List.length_cons] at hl
    obtain ⟨A1, ts1, cs1, g1, t1, y7, y8, e1, I1, l1⟩ := turn_go ω hF ha hf I (by omega) t (.im d) x7 x8
    obtain ⟨A2, ts2, cs2, g2, t2, z6, z7, z8, e2, I2⟩ := loop_go ω hF ha hf ds I1 (by omega) t1 (.im d) y7 y8
    exact ⟨A2, ts2, cs2, g2, t2, z6, z7, z8, (go_nx (ρ1 := Lr ω F0.d (.tup [A.d, trd ts]) (.tup (cs.map Cm.d)) (.im d) x7 x8 .un .un .un .un) rfl e1).trans e2, I2⟩
/-! ### the end -/
section
variable {ω : LO} {A : Au} {ts : List T} (hA : A.ok) (ht : TsOk A.ar ts) {F J : D} {x6 x7 x8 x10 x12 x13 : SV} {s : LS}
include hA ht
theorem LG_go : LG (Lr ω F (.tup [A.d, trd ts]) J x6 x7 x8 (.im (pd (ts.map (evl A)))) x10 x12 x13) s = some (nums ts.length (goodAt A ts), s) := by
  have htl := ht.tl
  have er := rg_of (S := LS) (ρ := Lr ω F (.tup [A.d, trd ts]) J x6 x7 x8 (.im (pd (ts.map (evl A)))) x10 x12 x13) (s := s) (s' := s) (fa := fUn dLen (fNw 9)) ts.length (by omega) (by simp [Lr, pd])
  have el := lc_filter (S := LS) (s := s) (ρ := Lr ω F (.tup [A.d, trd ts]) J x6 x7 x8 (.im (pd (ts.map (evl A)))) x10 x12 x13) (gf := gN 11) (ft := fTru (fBin dItem (fBin dItem (fBin dItem (fNw 4) (fC (.int 0))) (fC (.int 1))) (fBin dItem (fNw 9) (fNw 11)))) (fe := fN 11)
    (enc := fun i : Nat => D.int ((0 : Int) + (i : Int))) (g := fun i : Nat => D.int (i : Int)) (p := goodAt A ts) (xs := List.range ts.length) fun i hi => by
      have hi' : i < ts.length := List.mem_range.mp hi
      have e := List.getElem?_eq_getElem hi'
      obtain ⟨h1, h2⟩ := ht.ok _ (List.getElem_mem hi')
      have hr := (state_of_m hA 20 ts[i] (by omega) h1).1
      have hq : (ts.map (evl A))[i]? = some (evl A ts[i]) := by rw [List.getElem?_map, e]; rfl
      generalize evl A ts[i] = q at hr hq
      have eg := good_at hr
      have e2 : goodAt A ts i = goodB A q := by
        unfold goodAt
        rw [hq]
      have e3 : atI ((ts.map (evl A)).map D.int) (i : Int) = some (.int q) := by
        rw [atI_nat, List.getElem?_map, hq]
        rfl
      refine ⟨_, rfl, ?_, by simp [Lr]⟩
      rw [e2]
      generalize ts.map (evl A) = vs at e3
      simp [Lr, Au.d, pd, eg, -atI_nat, -List.map_map, e3]
  unfold LG
  have er' : sRg1 (fUn dLen (fNw 9)) (Lr ω F (.tup [A.d, trd ts]) J x6 x7 x8 (.im (pd (ts.map (evl A)))) x10 x12 x13) s = some ((List.range ts.length).map fun i : Nat => D.int ((0 : Int) + (i : Int)), s) := er
  rw [fUn_, fLc_, if_pos (by rfl), er', Option.bind_some, if_pos (by rw [List.length_map, List.length_range]; omega)]
  have el' : lcGo (gN 11) (fTru (fBin dItem (fBin dItem (fBin dItem (fNw 4) (fC (.int 0))) (fC (.int 1))) (fBin dItem (fNw 9) (fNw 11)))) (fN 11) (wipeS (Lr ω F (.tup [A.d, trd ts]) J x6 x7 x8 (.im (pd (ts.map (evl A)))) x10 x12 x13) [11]) ((List.range ts.length).map fun i : Nat => D.int ((0 : Int) + (i : Int))) s = some (((List.range ts.length).filter (goodAt A ts)).map (fun i : Nat => D.int (i : Int)), s) := el
  rw [el']
  rfl
theorem LI_go {li : List D → Option D} {k : Nat} (hli : ∀ t, t.ok A.ar → t.size ≤ 15 → li [A.d, .int (k + 1 : Nat), t.d] = some (.bl (liB A k t))) {x9 : SV} (h9 : x9 = .im (pd (ts.map (evl A)))) : LI li (Lr ω F (.tup [A.d, trd ts]) J x6 x7 x8 x9 x10 (.im (.int (k + 1 : Nat))) x13) s = some (nums ts.length (liAt A k ts), s) := by
  subst h9
  have htl := ht.tl
  have er := rg_of (S := LS) (ρ := Lr ω F (.tup [A.d, trd ts]) J x6 x7 x8 (.im (pd (ts.map (evl A)))) x10 (.im (.int (k + 1 : Nat))) x13) (s := s) (s' := s) (fa := fUn dLen (fNw 9)) ts.length (by omega) (by simp [Lr, pd])
  have el := lc_filter (S := LS) (s := s) (ρ := Lr ω F (.tup [A.d, trd ts]) J x6 x7 x8 (.im (pd (ts.map (evl A)))) x10 (.im (.int (k + 1 : Nat))) x13) (gf := gN 11) (ft := fTru (fCall 3 li (aCons (fBin dItem (fNw 4) (fC (.int 0))) (aCons (fN 12) (aCons (fBin dItem (fBin dItem (fNw 4) (fC (.int 1))) (fNw 11)) aNil))))) (fe := fN 11)
    (enc := fun i : Nat => D.int ((0 : Int) + (i : Int))) (g := fun i : Nat => D.int (i : Int)) (p := liAt A k ts) (xs := List.range ts.length) fun i hi => by
      have hi' : i < ts.length := List.mem_range.mp hi
      have e := List.getElem?_eq_getElem hi'
      obtain ⟨h1, h2⟩ := ht.ok _ (List.getElem_mem hi')
      generalize ts[i] = t at e h1 h2
      have em := hli t h1 h2
      have e2 : liAt A k ts i = liB A k t := by
        unfold liAt
        rw [e]
      have e3 : atI (ts.map T.d) (i : Int) = some t.d := by
        rw [atI_nat, List.getElem?_map, e]
        rfl
      refine ⟨_, rfl, ?_, by simp [Lr]⟩
      rw [e2, fTru_, call_of (n := 3) (xs := [A.d, .int (k + 1 : Nat), t.d]) (s' := s) (by simp [Lr, trd, -atI_nat, e3]) rfl em]
      rfl
  unfold LI
  have er' : sRg1 (fUn dLen (fNw 9)) (Lr ω F (.tup [A.d, trd ts]) J x6 x7 x8 (.im (pd (ts.map (evl A)))) x10 (.im (.int (k + 1 : Nat))) x13) s = some ((List.range ts.length).map fun i : Nat => D.int ((0 : Int) + (i : Int)), s) := er
  rw [fUn_, fLc_, if_pos (by rfl), er', Option.bind_some, if_pos (by rw [List.length_map, List.length_range]; omega)]
  have el' : lcGo (gN 11) (fTru (fCall 3 li (aCons (fBin dItem (fNw 4) (fC (.int 0))) (aCons (fN 12) (aCons (fBin dItem (fBin dItem (fNw 4) (fC (.int 1))) (fNw 11)) aNil))))) (fN 11) (wipeS (Lr ω F (.tup [A.d, trd ts]) J x6 x7 x8 (.im (pd (ts.map (evl A)))) x10 (.im (.int (k + 1 : Nat))) x13) [11]) ((List.range ts.length).map fun i : Nat => D.int ((0 : Int) + (i : Int))) s = some (((List.range ts.length).filter (liAt A k ts)).map (fun i : Nat => D.int (i : Int)), s) := el
  rw [el']
  rfl
omit hA ht in
theorem LD_go {nxt : List D → (Int × Nat) → Option (D × (Int × Nat))} (hn : ∀ (many : Int) (s : SS), 1 ≤ many → many ≤ 1000 → ∃ d s', nxt [.h ω.s.ps, .int many] s = some (.int d, s') ∧ 0 ≤ d ∧ d < many) {S : D} {x9 : SV} (t : Int × Nat) (g : GS) :
    ∃ (k : Nat) (t' : Int × Nat), LD ω nxt (Lr ω F S J x6 x7 x8 x9 x10 x12 x13) (t, g) = some (.int (k + 1 : Nat), (t', g)) ∧ k < 12 := by
  obtain ⟨d9, t1, e1, h0, h1⟩ := hn 9 t (by decide) (by decide)
  obtain ⟨d4, t2, e2, h2, h3⟩ := hn 4 t1 (by decide) (by decide)
  have o1 : lS1 ω 2 nxt (aCons (fN 1) (aCons (fC (.int 9)) aNil)) (Lr ω F S J x6 x7 x8 x9 x10 x12 x13) (t, g) = some (.int d9, (t1, g)) := lS1_of (s := (t, g)) (ds := [.h ω.s.ps, .int 9]) rfl rfl e1
  have o2 : lS1 ω 2 nxt (aCons (fN 1) (aCons (fC (.int 4)) aNil)) (Lr ω F S J x6 x7 x8 x9 x10 x12 x13) (t1, g) = some (.int d4, (t2, g)) := lS1_of (s := (t1, g)) (ds := [.h ω.s.ps, .int 4]) rfl rfl e2
  have o3 : (fLst (aCons (fC (.int 1)) (aCons (fC (.int 2)) (aCons (fC (.int 3)) (aCons (fBin dAdd (fC (.int 4)) (lS1 ω 2 nxt (aCons (fN 1) (aCons (fC (.int 9)) aNil)))) aNil)))) : EF LS) (Lr ω F S J x6 x7 x8 x9 x10 x12 x13) (t, g) = some (.lst [.int 1, .int 2, .int 3, .int (4 + d9)], (t1, g)) := by
    have o4 : (fBin dAdd (fC (.int 4)) (lS1 ω 2 nxt (aCons (fN 1) (aCons (fC (.int 9)) aNil))) : EF LS) (Lr ω F S J x6 x7 x8 x9 x10 x12 x13) (t, g) = some (.int (4 + d9), (t1, g)) := by
      rw [fBin_, fC_, Option.bind_some, o1]
      rfl
    rw [fLst_, acons_of (s1 := (t, g)) fC_ (acons_of (s1 := (t, g)) fC_ (acons_of (s1 := (t, g)) fC_ (acons_of o4 aNil_)))]
    rfl
  have key : ∀ {d : D}, atI [.int 1, .int 2, .int 3, .int (4 + d9)] d4 = some d → LD ω nxt (Lr ω F S J x6 x7 x8 x9 x10 x12 x13) (t, g) = some (d, (t2, g)) := fun {d} h => by
    unfold LD
    rw [fBin_, o3, Option.bind_some, o2, Option.bind_some]
    show (atI _ d4).map _ = _
    rw [h]
    rfl
  have hd : d4 = 0 ∨ d4 = 1 ∨ d4 = 2 ∨ d4 = 3 := by omega
  rcases hd with rfl | rfl | rfl | rfl
  · exact ⟨0, t2, key (by simp), by decide⟩
  · exact ⟨1, t2, key (by simp), by decide⟩
  · exact ⟨2, t2, key (by simp), by decide⟩
  · refine ⟨3 + d9.toNat, t2, key ?_, by omega⟩
    have : ((3 + d9.toNat + 1 : Nat) : Int) = 4 + d9 := by omega
    rw [this]
    simp
end
theorem nums_ok {n : Nat} (hn : n ≤ 12) (p : Nat → Bool) : pln (nums n p) = true ∧ dep (nums n p) ≤ 1 := tup_ok (by
  rw [List.length_map]
  have := List.length_filter_le p (List.range n)
  rw [List.length_range] at this
  omega) fun x hx => by
  obtain ⟨i, _, rfl⟩ := List.mem_map.mp hx
  exact int_ok
theorem end_go (ω : LO) {A : Au} {ts : List T} (hA : A.ok) (ht : TsOk A.ar ts) {g : GS} (hl : g.1.getLast? = some (.tup [A.d, trd ts])) {F J : D} {x6 x7 x8 : SV} (t : Int × Nat) :
    ∃ s', LE ω (m_L_next ω.s) (m_L_equal 30) m_L_states m_L_let_in (m_G_states ω.g) (m_G_good ω.g) (m_G_let_in ω.g) (Lr ω F (.tup [A.d, trd ts]) J x6 x7 x8 .un .un .un .un) (t, g) = .rt (.bl true) s' := by
  have htl := ht.tl
  have e1 := (states_in_m hA ht).2
  obtain ⟨k, t', e3, hk⟩ := LD_go (ω := ω) (nxt := m_L_next ω.s) (fun many s h1 h2 => next_m ω.s h1 h2 s) (F := F) (J := J) (S := .tup [A.d, trd ts]) (x6 := x6) (x7 := x7) (x8 := x8) (x9 := .im (pd (ts.map (evl A)))) (x10 := .im (nums ts.length (goodAt A ts))) (x12 := .un) (x13 := .un) t g
  have e2 := LG_go (ω := ω) hA ht (F := F) (J := J) (x6 := x6) (x7 := x7) (x8 := x8) (x10 := .un) (x12 := .un) (x13 := .un) (s := (t, g))
  have e4 := LI_go (ω := ω) hA ht (li := m_L_let_in) (k := k) (fun t h1 h2 => (liB_m hA (by omega) h1 h2).2) (F := F) (J := J) (x6 := x6) (x7 := x7) (x8 := x8) (x9 := .im (pd (ts.map (evl A)))) rfl (x10 := .im (nums ts.length (goodAt A ts))) (x13 := .un) (s := (t', g))
  refine ⟨(t', g), ?_⟩
  have o1 : (fCall 2 m_L_states (aCons (fBin dItem (fNw 4) (fC (.int 0))) (aCons (fBin dItem (fNw 4) (fC (.int 1))) aNil)) : EF LS) (Lr ω F (.tup [A.d, trd ts]) J x6 x7 x8 .un .un .un .un) (t, g) = some (pd (ts.map (evl A)), (t, g)) :=
    call_of (xs := [A.d, trd ts]) (s' := (t, g)) (by simp [Lr]) rfl e1
  refine (seq_nx (ρ' := Lr ω F (.tup [A.d, trd ts]) J x6 x7 x8 (.im (pd (ts.map (evl A)))) .un .un .un) (s' := (t, g)) (set_of o1)).trans ?_
  refine (seq_nx (ρ' := Lr ω F (.tup [A.d, trd ts]) J x6 x7 x8 (.im (pd (ts.map (evl A)))) (.im (nums ts.length (goodAt A ts))) .un .un) (s' := (t, g)) (set_of e2)).trans ?_
  refine (seq_nx (ρ' := Lr ω F (.tup [A.d, trd ts]) J x6 x7 x8 (.im (pd (ts.map (evl A)))) (.im (nums ts.length (goodAt A ts))) (.im (.int (k + 1 : Nat))) .un) (s' := (t', g)) (set_of e3)).trans ?_
  refine (seq_nx (ρ' := Lr ω F (.tup [A.d, trd ts]) J x6 x7 x8 (.im (pd (ts.map (evl A)))) (.im (nums ts.length (goodAt A ts))) (.im (.int (k + 1 : Nat))) (.im (nums ts.length (liAt A k ts)))) (s' := (t', g)) (set_of e4)).trans ?_
  have p1 := G_states_m (ω := ω.g) hl hA ht
  have p2 := G_good_m (ω := ω.g) hl hA ht
  have p3 := G_let_in_m (ω := ω.g) hl hA ht hk
  have hq := lst_ok (xs := [pd (ts.map (evl A)), nums ts.length (goodAt A ts), nums ts.length (liAt A k ts)]) (n := 1) (by simp) (by
    simp only [List.forall_mem_cons]
    exact ⟨pd_ok (by rw [List.length_map]; omega), nums_ok htl _, nums_ok htl _, fun _ h => nomatch h⟩)
  have p4 := eq_refl 30 _ (by have := hq.2; omega) hq.1
  have q1 : lM ω 1 (m_G_states ω.g) (fN 3) aNil (Lr ω F (.tup [A.d, trd ts]) J x6 x7 x8 (.im (pd (ts.map (evl A)))) (.im (nums ts.length (goodAt A ts))) (.im (.int (k + 1 : Nat))) (.im (nums ts.length (liAt A k ts)))) (t', g) = some (pd (ts.map (evl A)), (t', g)) := lM_of (s := (t', g)) (ds := []) rfl rfl rfl p1
  have q2 : lM ω 1 (m_G_good ω.g) (fN 3) aNil (Lr ω F (.tup [A.d, trd ts]) J x6 x7 x8 (.im (pd (ts.map (evl A)))) (.im (nums ts.length (goodAt A ts))) (.im (.int (k + 1 : Nat))) (.im (nums ts.length (liAt A k ts)))) (t', g) = some (nums ts.length (goodAt A ts), (t', g)) := lM_of (s := (t', g)) (ds := []) rfl rfl rfl p2
  have q3 : lM ω 2 (m_G_let_in ω.g) (fN 3) (aCons (fN 12) aNil) (Lr ω F (.tup [A.d, trd ts]) J x6 x7 x8 (.im (pd (ts.map (evl A)))) (.im (nums ts.length (goodAt A ts))) (.im (.int (k + 1 : Nat))) (.im (nums ts.length (liAt A k ts)))) (t', g) = some (nums ts.length (liAt A k ts), (t', g)) := lM_of (s := (t', g)) (ds := [.int (k + 1 : Nat)]) rfl rfl rfl p3
  have q4 : (fLst (aCons (lM ω 1 (m_G_states ω.g) (fN 3) aNil) (aCons (lM ω 1 (m_G_good ω.g) (fN 3) aNil) (aCons (lM ω 2 (m_G_let_in ω.g) (fN 3) (aCons (fN 12) aNil)) aNil))) : EF LS) (Lr ω F (.tup [A.d, trd ts]) J x6 x7 x8 (.im (pd (ts.map (evl A)))) (.im (nums ts.length (goodAt A ts))) (.im (.int (k + 1 : Nat))) (.im (nums ts.length (liAt A k ts)))) (t', g) = some (.lst [pd (ts.map (evl A)), nums ts.length (goodAt A ts), nums ts.length (liAt A k ts)], (t', g)) := by
    rw [fLst_, acons_of q1 (acons_of q2 (acons_of q3 aNil_))]
    rfl
  show LZ ω _ _ _ _ _ _ = _
  unfold LZ
  rw [fRet_, call_of (n := 2) (s' := (t', g)) (acons_of q4 (acons_of (s1 := (t', g)) rfl aNil_)) rfl p4]
theorem plain_law : PlainLaw := fun ω hns => by
  obtain ⟨ar, s1, e1, har⟩ := arities_draw ω (0, 0)
  have ha := arS_ok har
  obtain ⟨A, s2, e2, hA, hAr⟩ := automaton_draw ha ω s1
  rw [← hAr] at ha
  refine ⟨A.d, s2, ?_, check_m hA, fun ωl h1 h2 => ?_⟩
  · refine (set_of (s' := s2) (callW_of (xs := [.h ω.ps, pd ar, .int 1, .int 4]) (s1 := s1) (acons_of (s1 := (0, 0)) rfl (acons_of (callW_of (xs := [.h ω.ps]) (s1 := (0, 0)) rfl rfl e1) rfl)) rfl e2)).trans rfl
  · subst h1
    rw [LF_eq]
    have I : Inv A A [] [] (gInit A.d) := ⟨hA, rfl, rfl, ⟨by simp, fun t h => nomatch h⟩, fun c h => (nomatch h), rfl, rfl, rfl⟩
    obtain ⟨d, t1, e3, d0, d1⟩ := next_m ωl.s (many := 19) (by decide) (by decide) s2
    have o3 : lS1 ωl 2 (m_L_next ωl.s) (aCons (fN 1) (aCons (fC (.int 19)) aNil)) (Lr ωl A.d (.tup [A.d, trd []]) (.tup ([].map Cm.d)) .un .un .un .un .un .un .un) (s2, gInit A.d) = some (.int (d.toNat : Int), (t1, gInit A.d)) := by
      rw [show (d.toNat : Int) = d by omega]
      exact lS1_of (s := (s2, gInit A.d)) (ds := [.h ωl.s.ps, .int 19]) rfl rfl e3
    obtain ⟨A', ts', cs', g', t', y6, y7, y8, e4, I'⟩ := loop_go ωl hA ha h2 (rgD 0 d.toNat) I (by rw [rgD_len]; simp; omega) t1 .un .un .un
    obtain ⟨s', e5⟩ := end_go ωl I'.ok I'.tk I'.gl (F := A.d) (J := .tup (cs'.map Cm.d)) (x6 := y6) (x7 := y7) (x8 := y8) t'
    refine ⟨s', ?_⟩
    refine (seq_nx (ρ' := [.un, .im (.h ωl.s.ps), .im A.d, .im (.h ωl.g.pg), .im (.tup [A.d, trd []]), .un, .un, .un, .un, .un, .un, .un, .un, .un]) (s' := (s2, gInit A.d)) rfl).trans ?_
    refine (seq_nx (ρ' := Lr ωl A.d (.tup [A.d, trd []]) (.tup ([].map Cm.d)) .un .un .un .un .un .un .un) (s' := (s2, gInit A.d)) rfl).trans ?_
    refine (seq_nx (s' := (t', g')) ((for_go (rg_of d.toNat (by omega) o3)).trans e4)).trans ?_
    exact e5
end K7
end
set_option maxRecDepth 100000 in
theorem PySem.Challenge.cw_rootfirst_k76_whole_commands_of_gardens_holds : PySem.Challenge.rw_rootfirst_k76_whole_commands_of_gardens.Holds :=
  K7.holds_of K7.plain_law
