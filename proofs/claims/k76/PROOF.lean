import PyProof.Rows.All
import Wide.All
import OpenK.AllK
import Wide.FinOn
import HandS.ForMost
import HandS.Slots
import HandS.SlotsOwn
import HandS.TupAny
import HandS.Conv
import HandS.Rev
import HandS.Zip
import HandS.SortInts
import HandS.Style
import HandS.Flow
import HandS.Deep
import HandS.IsInst
import KE.GoesMore
import HandS.DictComp
import HandS.More
import KE.KRevSl
import HandS.Star
import HandS.SetFor
import PyProof.DictUpdate
import PySem.Challenge.RW_rulerbits_k76_whole_sides_from_both_side
set_option Elab.async false
set_option linter.all false
set_option maxRecDepth 100000
set_option maxHeartbeats 4000000
set_option autoImplicit false
namespace RB
open PySem PySem.Spec PyProof.Rows L2
/-! Data trees over the hand layer. -/

/-! ### data -/
inductive D where
  | non | bl (b : Bool) | int (i : Int) | str (x : Str)
  | tup (xs : List D) | lst (xs : List D)
  | dic (ks : List Key) (xs : List D)
  | ins (C : Addr) (xs : List D)
  | adr (a : Addr)
/-- a slot: unknown, shared (frozen) data, an own mutable object -/
inductive Sl where
  | no | sh (d : D) | own (d : D)
/-- a result: shared data, a fresh object, the object of an own slot -/
inductive Res where
  | sh (d : D) | fr (d : D) | pk (i : Nat)
abbrev Env2 := List Sl

mutual
def Rep (K : PySem.W.Frag) (F : Hp) : D → V → Prop
  | .non, v => v = .non
  | .bl b, v => v = .bl b
  | .int i, v => v = .int i
  | .str x, v => v = .str x
  | .tup ds, v => ∃ a vs, v = .ref a ∧ SqT K F a vs ∧ RepL K F ds vs
  | .lst ds, v => ∃ a vs, v = .ref a ∧ F a = some (.lst vs) ∧ RepL K F ds vs
  | .dic ks ds, v => ∃ a vs, v = .ref a ∧ Rd F a (.dK (ks.zip vs)) ∧ ks.length = ds.length ∧ RepL K F ds vs
  | .ins C ds, v => ∃ a dx vs, v = .ref a ∧ SlX.Slt F a C dx (vs.map some) ∧ RepL K F ds vs
  | .adr a, v => v = .ref a
def RepL (K : PySem.W.Frag) (F : Hp) : List D → List V → Prop
  | [], vs => vs = []
  | d :: ds, vs => ∃ v r, vs = v :: r ∧ Rep K F d v ∧ RepL K F ds r
end

abbrev Ex (H H' : Hp) : Prop := ∀ a o, H a = some o → H' a = some o
theorem Ex.refl (H : Hp) : Ex H H := fun _ _ h => h
theorem Ex.trans {A B C : Hp} (x : Ex A B) (y : Ex B C) : Ex A C := fun a o h => y a o (x a o h)
theorem Ex.new {H : Hp} {p : Addr} {o : HO} (h : H p = none) : Ex H (upd H p o) := fun a u e => by
  rw [upd_ne (ne_of_none e h)]; exact e
theorem Ex.rd {F F' : Hp} (e : Ex F F') {a : Addr} {u : HO} (h : Rd F a u) : Rd F' a u := by
  rcases h with h | ⟨o, h⟩
  · exact .inl (e a _ h)
  · exact .inr ⟨o, e a _ h⟩
theorem Ex.sqL {K : PySem.W.Frag} {F F' : Hp} (e : Ex F F') {a : Addr} {xs : List V} (h : SqL K F a xs) : SqL K F' a xs := by
  rcases h with h | h
  · exact .inl (e.rd h)
  · exact .inr h
theorem Ex.sqT {K : PySem.W.Frag} {F F' : Hp} (e : Ex F F') {a : Addr} {xs : List V} (h : SqT K F a xs) : SqT K F' a xs := by
  rcases h with h | h
  · exact .inl (e.rd h)
  · exact .inr h
theorem Ex.slt {F F' : Hp} (e : Ex F F') {a C dx : Addr} {vs : List (Option V)} (h : SlX.Slt F a C dx vs) : SlX.Slt F' a C dx vs := by
  rcases h with ⟨h1, h2⟩ | ⟨h1, h2⟩
  · exact .inl ⟨e _ _ h1, h2⟩
  · exact .inr ⟨e _ _ h1, e _ _ h2⟩

mutual
theorem Rep.mono {K : PySem.W.Frag} {F F' : Hp} (e : Ex F F') : ∀ (d : D) (v : V), Rep K F d v → Rep K F' d v
  | .non, v, h => h
  | .bl b, v, h => h
  | .int i, v, h => h
  | .str x, v, h => h
  | .tup ds, v, h => by
    obtain ⟨a, vs, h1, h2, h3⟩ := h
    exact ⟨a, vs, h1, e.sqT h2, RepL.mono e ds vs h3⟩
  | .lst ds, v, h => by
    obtain ⟨a, vs, h1, h2, h3⟩ := h
    exact ⟨a, vs, h1, e _ _ h2, RepL.mono e ds vs h3⟩
  | .dic ks ds, v, h => by
    obtain ⟨a, vs, h1, h2, h4, h3⟩ := h
    exact ⟨a, vs, h1, e.rd h2, h4, RepL.mono e ds vs h3⟩
  | .ins C ds, v, h => by
    obtain ⟨a, dx, vs, h1, h2, h3⟩ := h
    exact ⟨a, dx, vs, h1, e.slt h2, RepL.mono e ds vs h3⟩
  | .adr a, v, h => h
theorem RepL.mono {K : PySem.W.Frag} {F F' : Hp} (e : Ex F F') : ∀ (ds : List D) (vs : List V), RepL K F ds vs → RepL K F' ds vs
  | [], vs, h => h
  | d :: ds, vs, h => by
    obtain ⟨v, r, h1, h2, h3⟩ := h
    exact ⟨v, r, h1, Rep.mono e d v h2, RepL.mono e ds r h3⟩
end
section
variable {K : PySem.W.Frag} {F : Hp}
theorem RepL.length : ∀ {ds : List D} {vs : List V}, RepL K F ds vs → vs.length = ds.length
  | [], vs, h => by cases (show vs = [] from h); rfl
  | d :: ds, vs, h => by
    obtain ⟨v, r, rfl, _, h3⟩ := h
    rw [List.length_cons, List.length_cons, RepL.length h3]
theorem RepL.get : ∀ {ds : List D} {vs : List V} {i : Nat} {d : D}, RepL K F ds vs → ds[i]? = some d → ∃ v, vs[i]? = some v ∧ Rep K F d v
  | [], vs, i, d, h, e => by simp at e
  | d0 :: ds, vs, 0, d, h, e => by
    obtain ⟨v, r, rfl, h2, _⟩ := h
    have : d0 = d := by simpa using e
    subst this
    exact ⟨v, rfl, h2⟩
  | d0 :: ds, vs, i + 1, d, h, e => by
    obtain ⟨v, r, rfl, _, h3⟩ := h
    obtain ⟨u, h1, h2⟩ := RepL.get (i := i) h3 (by simpa using e)
    exact ⟨u, by simpa using h1, h2⟩
theorem RepL.getV {ds : List D} {vs : List V} {i : Nat} {v : V} (h : RepL K F ds vs) (e : vs[i]? = some v) : ∃ d, ds[i]? = some d ∧ Rep K F d v := by
  have hi : i < vs.length := (List.getElem?_eq_some_iff.mp e).1
  rw [h.length] at hi
  obtain ⟨u, h1, h2⟩ := h.get (List.getElem?_eq_getElem hi)
  rw [e] at h1
  cases h1
  exact ⟨_, List.getElem?_eq_getElem hi, h2⟩
theorem RepL.append : ∀ {ds es : List D} {vs us : List V}, RepL K F ds vs → RepL K F es us → RepL K F (ds ++ es) (vs ++ us)
  | [], es, vs, us, h, g => by cases (show vs = [] from h); exact g
  | d :: ds, es, vs, us, h, g => by
    obtain ⟨v, r, rfl, h2, h3⟩ := h
    exact ⟨v, r ++ us, rfl, h2, RepL.append h3 g⟩
theorem RepL.one {d : D} {v : V} (h : Rep K F d v) : RepL K F [d] [v] := ⟨v, [], rfl, h, rfl⟩
theorem RepL.drop : ∀ (n : Nat) {ds : List D} {vs : List V}, RepL K F ds vs → RepL K F (ds.drop n) (vs.drop n)
  | 0, _, _, h => h
  | n + 1, [], vs, h => by cases (show vs = [] from h); exact rfl
  | n + 1, d :: ds, vs, h => by
    obtain ⟨v, r, rfl, h2, h3⟩ := h
    exact RepL.drop n h3
theorem RepL.take : ∀ (n : Nat) {ds : List D} {vs : List V}, RepL K F ds vs → RepL K F (ds.take n) (vs.take n)
  | 0, _, _, h => rfl
  | n + 1, [], vs, h => by cases (show vs = [] from h); exact rfl
  | n + 1, d :: ds, vs, h => by
    obtain ⟨v, r, rfl, h2, h3⟩ := h
    exact ⟨v, r.take n, rfl, h2, RepL.take n h3⟩
theorem RepL.set : ∀ (i : Nat) {ds : List D} {vs : List V} {d : D} {v : V}, RepL K F ds vs → Rep K F d v → RepL K F (ds.set i d) (vs.set i v)
  | i, [], vs, d, v, h, g => by cases (show vs = [] from h); exact rfl
  | 0, d0 :: ds, vs, d, v, h, g => by
    obtain ⟨u, r, rfl, _, h3⟩ := h
    exact ⟨v, r, rfl, g, h3⟩
  | i + 1, d0 :: ds, vs, d, v, h, g => by
    obtain ⟨u, r, rfl, h2, h3⟩ := h
    exact ⟨u, r.set i v, rfl, h2, RepL.set i h3 g⟩
theorem RepL.eraseIdx : ∀ (i : Nat) {ds : List D} {vs : List V}, RepL K F ds vs → RepL K F (ds.eraseIdx i) (vs.eraseIdx i)
  | i, [], vs, h => by cases (show vs = [] from h); exact rfl
  | 0, d0 :: ds, vs, h => by
    obtain ⟨u, r, rfl, _, h3⟩ := h
    exact h3
  | i + 1, d0 :: ds, vs, h => by
    obtain ⟨u, r, rfl, h2, h3⟩ := h
    exact ⟨u, r.eraseIdx i, rfl, h2, RepL.eraseIdx i h3⟩
theorem RepL.reverse : ∀ {ds : List D} {vs : List V}, RepL K F ds vs → RepL K F ds.reverse vs.reverse
  | [], vs, h => by cases (show vs = [] from h); exact rfl
  | d :: ds, vs, h => by
    obtain ⟨v, r, rfl, h2, h3⟩ := h
    rw [List.reverse_cons, List.reverse_cons]
    exact (RepL.reverse h3).append (.one h2)
/-- lists of ints -/
theorem RepL.ints : ∀ {ns : List Int} {vs : List V}, RepL K F (ns.map D.int) vs → vs = ns.map V.int
  | [], vs, h => h
  | n :: ns, vs, h => by
    obtain ⟨v, r, rfl, h2, h3⟩ := h
    cases (show v = .int n from h2)
    rw [RepL.ints h3]; rfl
theorem RepL.of_ints : ∀ (ns : List Int), RepL K F (ns.map D.int) (ns.map V.int)
  | [] => rfl
  | n :: ns => ⟨_, _, rfl, rfl, RepL.of_ints ns⟩
theorem RepL.strs : ∀ {ns : List Str} {vs : List V}, RepL K F (ns.map D.str) vs → vs = ns.map V.str
  | [], vs, h => h
  | n :: ns, vs, h => by
    obtain ⟨v, r, rfl, h2, h3⟩ := h
    cases (show v = .str n from h2)
    rw [RepL.strs h3]; rfl
theorem RepL.of_strs : ∀ (ns : List Str), RepL K F (ns.map D.str) (ns.map V.str)
  | [] => rfl
  | n :: ns => ⟨_, _, rfl, rfl, RepL.of_strs ns⟩
end

/-! ### own objects -/
/-- the object at p, its parts frozen -/
def Own (K : PySem.W.Frag) (F H : Hp) (p : Addr) : D → Prop
  | .lst ds => ∃ vs, H p = some (.lst vs) ∧ RepL K F ds vs
  | .dic ks ds => ∃ vs, H p = some (.dK (ks.zip vs)) ∧ ks.length = ds.length ∧ RepL K F ds vs
  | _ => False
theorem Own.mono {K : PySem.W.Frag} {F F' H H' : Hp} {p : Addr} {d : D} (e : Ex F F') (k : ∀ o, H p = some o → H' p = some o) (h : Own K F H p d) : Own K F' H' p d := by
  cases d with
  | lst ds => obtain ⟨vs, h1, h2⟩ := h; exact ⟨vs, k _ h1, RepL.mono e _ _ h2⟩
  | dic ks ds => obtain ⟨vs, h1, h3, h2⟩ := h; exact ⟨vs, k _ h1, h3, RepL.mono e _ _ h2⟩
  | _ => exact h.elim
theorem Own.there {K : PySem.W.Frag} {F H : Hp} {p : Addr} {d : D} (h : Own K F H p d) : ∃ o, H p = some o := by
  cases d with
  | lst ds => obtain ⟨vs, h1, h2⟩ := h; exact ⟨_, h1⟩
  | dic ks ds => obtain ⟨vs, h1, h3, h2⟩ := h; exact ⟨_, h1⟩
  | _ => exact h.elim
/-- a view: frozen, or an object whose parts are -/
def Vw (K : PySem.W.Frag) (F H : Hp) (d : D) (v : V) : Prop := Rep K F d v ∨ ∃ p, v = .ref p ∧ Own K F H p d
theorem Vw.lst {K : PySem.W.Frag} {F H : Hp} (e : Ex F H) {ds : List D} {v : V} (h : Vw K F H (.lst ds) v) : ∃ a vs, v = .ref a ∧ H a = some (.lst vs) ∧ RepL K F ds vs := by
  rcases h with ⟨a, vs, h1, h2, h3⟩ | ⟨p, h1, vs, h2, h3⟩
  · exact ⟨a, vs, h1, e _ _ h2, h3⟩
  · exact ⟨p, vs, h1, h2, h3⟩
theorem Vw.tup {K : PySem.W.Frag} {F H : Hp} (e : Ex F H) {ds : List D} {v : V} (h : Vw K F H (.tup ds) v) : ∃ a vs, v = .ref a ∧ SqT K H a vs ∧ RepL K F ds vs := by
  rcases h with ⟨a, vs, h1, h2, h3⟩ | ⟨p, h1, h2⟩
  · exact ⟨a, vs, h1, e.sqT h2, h3⟩
  · exact h2.elim
theorem Vw.dic {K : PySem.W.Frag} {F H : Hp} (e : Ex F H) {ks : List Key} {ds : List D} {v : V} (h : Vw K F H (.dic ks ds) v) : ∃ a vs, v = .ref a ∧ Rd H a (.dK (ks.zip vs)) ∧ ks.length = ds.length ∧ RepL K F ds vs := by
  rcases h with ⟨a, vs, h1, h2, h4, h3⟩ | ⟨p, h1, vs, h2, h4, h3⟩
  · exact ⟨a, vs, h1, e.rd h2, h4, h3⟩
  · exact ⟨p, vs, h1, .inl h2, h4, h3⟩
theorem Vw.int {K : PySem.W.Frag} {F H : Hp} {i : Int} {v : V} (h : Vw K F H (.int i) v) : v = .int i := by
  rcases h with h | ⟨p, h1, h2⟩
  · exact h
  · exact h2.elim
theorem Vw.bl {K : PySem.W.Frag} {F H : Hp} {i : Bool} {v : V} (h : Vw K F H (.bl i) v) : v = .bl i := by
  rcases h with h | ⟨p, h1, h2⟩
  · exact h
  · exact h2.elim
theorem Vw.str {K : PySem.W.Frag} {F H : Hp} {i : Str} {v : V} (h : Vw K F H (.str i) v) : v = .str i := by
  rcases h with h | ⟨p, h1, h2⟩
  · exact h
  · exact h2.elim
theorem Vw.non {K : PySem.W.Frag} {F H : Hp} {v : V} (h : Vw K F H .non v) : v = .non := by
  rcases h with h | ⟨p, h1, h2⟩
  · exact h
  · exact h2.elim
theorem Vw.ins {K : PySem.W.Frag} {F H : Hp} (e : Ex F H) {C : Addr} {ds : List D} {v : V} (h : Vw K F H (.ins C ds) v) : ∃ a dx vs, v = .ref a ∧ SlX.Slt H a C dx (vs.map some) ∧ RepL K F ds vs := by
  rcases h with ⟨a, dx, vs, h1, h2, h3⟩ | ⟨p, h1, h2⟩
  · exact ⟨a, dx, vs, h1, e.slt h2, h3⟩
  · exact h2.elim

/-! ### states -/
/-- F0: what was frozen at the entry; T: what others hold; F: frozen; G: the open region; H: all -/
structure Bas (F0 T F G H : Hp) : Prop where
  ff : Ex F0 F
  ft : ∀ a o, F a = some o → F0 a = some o ∨ T a = none
  fh : Ex F H
  gh : Ex G H
  fg : ∀ a o, G a = some o → F a = none
  gt : ∀ a o, G a = some o → T a = none
  tk : Ex T H
def SlotOk (K : PySem.W.Frag) (T F G H : Hp) : Sl → Option (Option V) → Prop
  | .no, _ => True
  | .sh d, x => ∃ v, x = some (some v) ∧ Rep K F d v
  | .own d, x => ∃ p, x = some (some (.ref p)) ∧ Own K F H p d ∧ F p = none ∧ G p = none ∧ T p = none
structure Sta (K : PySem.W.Frag) (F0 T F G H : Hp) (r : Env2) (σ : L2.St) : Prop where
  bas : Bas F0 T F G H
  len : r.length = σ.length
  sl : ∀ (i : Nat) (s : Sl), r[i]? = some s → SlotOk K T F G H s σ[i]?
  ap : ∀ (i j : Nat) (d e : D), i ≠ j → r[i]? = some (.own d) → r[j]? = some (.own e) → σ[i]? ≠ σ[j]?
def ResOk (K : PySem.W.Frag) (T F G H : Hp) (r : Env2) (σ : L2.St) : Res → V → Prop
  | .sh d, v => Rep K F d v
  | .fr d, v => ∃ p, v = .ref p ∧ Own K F H p d ∧ F p = none ∧ G p = none ∧ T p = none ∧ ∀ (i : Nat) (e : D), r[i]? = some (.own e) → σ[i]? ≠ some (some (.ref p))
  | .pk i, v => σ[i]? = some (some v) ∧ ∃ d, r[i]? = some (.own d)
/-- the view of a result -/
def vw (r : Env2) : Res → Option D
  | .sh d => some d
  | .fr d => some d
  | .pk i => match r[i]? with
    | some (.own d) => some d
    | some (.sh d) => some d
    | _ => none
/-- a flat value as data (an object by its address) -/
def vD : V → D
  | .non => .non
  | .bl b => .bl b
  | .int i => .int i
  | .str x => .str x
  | .ref a => .adr a
  | _ => .non
def flatR : V → Bool
  | .non => true
  | .bl _ => true
  | .int _ => true
  | .str _ => true
  | .ref _ => true
  | _ => false
/-- the view of a result, or of a list of the open region -/
def VwR (r : Env2) (G : Hp) (x : Res) (d : D) : Prop := vw r x = some d ∨ ∃ a vs, x = .sh (.adr a) ∧ G a = some (.lst vs) ∧ vs.all flatR = true ∧ d = .lst (vs.map vD)
def RtOk (K : PySem.W.Frag) (T F G H : Hp) : Res → V → Prop
  | .sh d, v => Rep K F d v
  | .fr d, v => ∃ p, v = .ref p ∧ Own K F H p d ∧ F p = none ∧ G p = none ∧ T p = none
  | .pk _, _ => False
/-- what freezing an object at p adds -/
def Frz (K : PySem.W.Frag) (F H : Hp) (p : Addr) : Hp := fun a => if a = p then H p else F a

section
variable {K : PySem.W.Frag} {F0 T F G H : Hp} {r : Env2} {σ : L2.St}
theorem Sta.slot (S : Sta K F0 T F G H r σ) {i : Nat} {d : D} (h : r[i]? = some (.sh d)) : ∃ v, σ[i]? = some (some v) ∧ Rep K F d v := S.sl i _ h
theorem Sta.ownS (S : Sta K F0 T F G H r σ) {i : Nat} {d : D} (h : r[i]? = some (.own d)) : ∃ p, σ[i]? = some (some (.ref p)) ∧ Own K F H p d ∧ F p = none ∧ G p = none ∧ T p = none := S.sl i _ h
/-- the frozen part grows by a new object, others keep -/
theorem Bas.newF (B : Bas F0 T F G H) {p : Addr} {o : HO} (hp : H p = none) : Bas F0 T (upd F p o) G (upd H p o) := by
  have fp : F p = none := by
    cases e : F p with
    | none => rfl
    | some u => rw [B.fh p u e] at hp; cases hp
  have gp : G p = none := by
    cases e : G p with
    | none => rfl
    | some u => rw [B.gh p u e] at hp; cases hp
  have tp : T p = none := by
    cases e : T p with
    | none => rfl
    | some u => rw [B.tk p u e] at hp; cases hp
  refine ⟨B.ff.trans (Ex.new fp), fun a o' e => ?_, fun a o' e => ?_, B.gh.trans (Ex.new hp), fun a o' e => ?_, B.gt, B.tk.trans (Ex.new hp)⟩
  · by_cases h : a = p
    · subst h; exact .inr tp
    · rw [upd_ne h] at e; exact B.ft a o' e
  · by_cases h : a = p
    · subst h; rw [upd_same] at e ⊢; exact e
    · rw [upd_ne h] at e ⊢; exact B.fh a o' e
  · by_cases h : a = p
    · subst h; rw [gp] at e; cases e
    · rw [upd_ne h]; exact B.fg a o' e
/-- a new object that is not frozen -/
theorem Bas.newH (B : Bas F0 T F G H) {p : Addr} {o : HO} (hp : H p = none) : Bas F0 T F G (upd H p o) :=
  ⟨B.ff, B.ft, B.fh.trans (Ex.new hp), B.gh.trans (Ex.new hp), B.fg, B.gt, B.tk.trans (Ex.new hp)⟩
theorem Bas.freshF (B : Bas F0 T F G H) {p : Addr} (hp : H p = none) : F p = none ∧ G p = none ∧ T p = none := by
  refine ⟨?_, ?_, ?_⟩
  · cases e : F p with
    | none => rfl
    | some u => rw [B.fh p u e] at hp; cases hp
  · cases e : G p with
    | none => rfl
    | some u => rw [B.gh p u e] at hp; cases hp
  · cases e : T p with
    | none => rfl
    | some u => rw [B.tk p u e] at hp; cases hp
/-- an object that nobody else knows is written -/
theorem Bas.put (B : Bas F0 T F G H) {p : Addr} {o : HO} (h1 : F p = none) (h2 : G p = none) (h3 : T p = none) : Bas F0 T F G (upd H p o) := by
  refine ⟨B.ff, B.ft, fun a u e => ?_, fun a u e => ?_, B.fg, B.gt, fun a u e => ?_⟩
  · rw [upd_ne (ne_of_none e h1)]; exact B.fh a u e
  · rw [upd_ne (ne_of_none e h2)]; exact B.gh a u e
  · rw [upd_ne (ne_of_none e h3)]; exact B.tk a u e
theorem Bas.frz (B : Bas F0 T F G H) {p : Addr} {o : HO} (ho : H p = some o) (h1 : F p = none) (h2 : G p = none) (h3 : T p = none) : Bas F0 T (upd F p o) G H := by
  refine ⟨B.ff.trans (Ex.new h1), fun a u e => ?_, fun a u e => ?_, B.gh, fun a u e => ?_, B.gt, B.tk⟩
  · by_cases h : a = p
    · subst h; exact .inr h3
    · rw [upd_ne h] at e; exact B.ft a u e
  · by_cases h : a = p
    · subst h; rw [upd_same] at e; cases e; exact ho
    · rw [upd_ne h] at e; exact B.fh a u e
  · by_cases h : a = p
    · subst h; rw [h2] at e; cases e
    · rw [upd_ne h]; exact B.fg a u e
/-- the slots stand when F, H grow and the own objects keep -/
theorem Sta.grow {F' G' H' : Hp} {F0' T' : Hp} (S : Sta K F0 T F G H r σ) (B : Bas F0' T' F' G' H') (ef : Ex F F')
    (ko : ∀ p, F p = none → G p = none → T p = none → (∃ o, H p = some o) → (∀ o, H p = some o → H' p = some o) ∧ F' p = none ∧ G' p = none ∧ T' p = none) : Sta K F0' T' F' G' H' r σ := by
  refine ⟨B, S.len, fun i s e => ?_, S.ap⟩
  have h := S.sl i s e
  cases s with
  | no => trivial
  | sh d => obtain ⟨v, h1, h2⟩ := h; exact ⟨v, h1, Rep.mono ef _ _ h2⟩
  | own d =>
    obtain ⟨p, h1, h2, h3, h4, h5⟩ := h
    obtain ⟨k1, k2, k3, k4⟩ := ko p h3 h4 h5 h2.there
    exact ⟨p, h1, h2.mono ef k1, k2, k3, k4⟩
theorem Sta.newF (S : Sta K F0 T F G H r σ) {p : Addr} {o : HO} (hp : H p = none) : Sta K F0 T (upd F p o) G (upd H p o) r σ := by
  refine S.grow (S.bas.newF hp) (Ex.new (S.bas.freshF hp).1) fun q h1 h2 h3 ⟨u, hu⟩ => ?_
  have hq : q ≠ p := fun z => by subst z; rw [hp] at hu; cases hu
  exact ⟨fun o' e => by rw [upd_ne hq]; exact e, by rw [upd_ne hq]; exact h1, h2, h3⟩
theorem Sta.newH (S : Sta K F0 T F G H r σ) {p : Addr} {o : HO} (hp : H p = none) : Sta K F0 T F G (upd H p o) r σ := by
  refine S.grow (S.bas.newH hp) (Ex.refl _) fun q h1 h2 h3 ⟨u, hu⟩ => ?_
  have hq : q ≠ p := fun z => by subst z; rw [hp] at hu; cases hu
  exact ⟨fun o' e => by rw [upd_ne hq]; exact e, h1, h2, h3⟩
theorem Sta.freshR (S : Sta K F0 T F G H r σ) {p : Addr} (hp : H p = none) : ∀ (i : Nat) (e : D), r[i]? = some (.own e) → σ[i]? ≠ some (some (.ref p)) := fun i e he z => by
  obtain ⟨q, h1, h2, _⟩ := S.ownS he
  rw [z] at h1
  cases h1
  obtain ⟨o, ho⟩ := h2.there
  rw [hp] at ho; cases ho
/-- a slot is stored -/
theorem Sta.set (S : Sta K F0 T F G H r σ) {i : Nat} {s : Sl} {v : V} (hi : i < r.length) (h : SlotOk K T F G H s (some (some v))) (ha : ∀ d, s = .own d → ∀ (j : Nat) (e : D), r[j]? = some (.own e) → j ≠ i → σ[j]? ≠ some (some v)) : Sta K F0 T F G H (r.set i s) (σ.set i (some v)) := by
  have hiσ : i < σ.length := by rw [← S.len]; exact hi
  refine ⟨S.bas, by rw [List.length_set, List.length_set]; exact S.len, fun j s' e => ?_, fun j k d e hjk ej ek => ?_⟩
  · by_cases hj : i = j
    · subst hj
      rw [List.getElem?_set_self hi] at e
      cases e
      rw [List.getElem?_set_self hiσ]
      exact h
    · rw [List.getElem?_set_ne hj] at e ⊢
      exact S.sl j s' e
  · by_cases hj : i = j
    · subst hj
      rw [List.getElem?_set_self hi] at ej
      cases ej
      rw [List.getElem?_set_ne hjk] at ek
      rw [List.getElem?_set_self hiσ, List.getElem?_set_ne hjk]
      exact fun z => ha d rfl k e ek (Ne.symm hjk) z.symm
    · rw [List.getElem?_set_ne hj] at ej
      by_cases hk : i = k
      · subst hk
        rw [List.getElem?_set_self hi] at ek
        cases ek
        rw [List.getElem?_set_self hiσ, List.getElem?_set_ne hj]
        exact ha e rfl j d ej hjk
      · rw [List.getElem?_set_ne hk] at ek
        rw [List.getElem?_set_ne hj, List.getElem?_set_ne hk]
        exact S.ap j k d e hjk ej ek
/-- knowledge about slots is forgotten -/
inductive Wk : Env2 → Env2 → Prop
  | nil : Wk [] []
  | no {s : Sl} {a b : Env2} (h : Wk a b) : Wk (s :: a) (.no :: b)
  | eq {s : Sl} {a b : Env2} (h : Wk a b) : Wk (s :: a) (s :: b)
theorem Wk.get {a b : Env2} (w : Wk a b) : ∀ (i : Nat) (s : Sl), b[i]? = some s → s = .no ∨ a[i]? = some s := by
  induction w with
  | nil => intro i s h; simp at h
  | no _ ih =>
    intro i s h
    cases i with
    | zero => left; simpa using h.symm
    | succ i => simpa using ih i s (by simpa using h)
  | eq _ ih =>
    intro i s h
    cases i with
    | zero => right; simpa using h
    | succ i => simpa using ih i s (by simpa using h)
theorem Wk.len {a b : Env2} (w : Wk a b) : b.length = a.length := by
  induction w with
  | nil => rfl
  | no _ ih => simp [ih]
  | eq _ ih => simp [ih]
theorem Wk.refl : ∀ (a : Env2), Wk a a
  | [] => .nil
  | _ :: a => .eq (Wk.refl a)
theorem Sta.weak {r' : Env2} (S : Sta K F0 T F G H r σ) (w : Wk r r') : Sta K F0 T F G H r' σ := by
  refine ⟨S.bas, by rw [w.len]; exact S.len, fun i s e => ?_, fun i j d e hij ei ej => ?_⟩
  · rcases w.get i s e with z | z
    · subst z; trivial
    · exact S.sl i s z
  · rcases w.get i _ ei with z | z
    · cases z
    · rcases w.get j _ ej with y | y
      · cases y
      · exact S.ap i j d e hij z y
/-- an own slot is frozen -/
theorem Sta.frzSlot (S : Sta K F0 T F G H r σ) {i : Nat} {d : D} (h : r[i]? = some (.own d)) : ∃ F', Ex F F' ∧ Sta K F0 T F' G H (r.set i (.sh d)) σ ∧ ∃ v, σ[i]? = some (some v) ∧ Rep K F' d v := by
  obtain ⟨p, h1, h2, h3, h4, h5⟩ := S.ownS h
  obtain ⟨o, ho⟩ := h2.there
  have hi : i < r.length := (List.getElem?_eq_some_iff.mp h).1
  have ef : Ex F (upd F p o) := Ex.new h3
  have rp : Rep K (upd F p o) d (.ref p) := by
    cases d with
    | lst ds =>
      obtain ⟨vs, q1, q2⟩ := h2
      rw [ho] at q1; cases q1
      exact ⟨p, vs, rfl, upd_same, RepL.mono ef _ _ q2⟩
    | dic ks ds =>
      obtain ⟨vs, q1, q3, q2⟩ := h2
      rw [ho] at q1; cases q1
      exact ⟨p, vs, rfl, .inl upd_same, q3, RepL.mono ef _ _ q2⟩
    | _ => exact h2.elim
  refine ⟨upd F p o, ef, ⟨S.bas.frz ho h3 h4 h5, by rw [List.length_set]; exact S.len, fun j s e => ?_, fun j k d' e' hjk ej ek => ?_⟩, .ref p, h1, rp⟩
  · by_cases hj : i = j
    · subst hj
      rw [List.getElem?_set_self hi] at e
      cases e
      exact ⟨_, h1, rp⟩
    · rw [List.getElem?_set_ne hj] at e
      have q := S.sl j s e
      cases s with
      | no => trivial
      | sh d' => obtain ⟨v, q1, q2⟩ := q; exact ⟨v, q1, Rep.mono ef _ _ q2⟩
      | own d' =>
        obtain ⟨p', q1, q2, q3, q4, q5⟩ := q
        have hpp : p' ≠ p := fun z => by
          subst z
          exact S.ap i j d d' hj h e (h1.trans q1.symm)
        exact ⟨p', q1, q2.mono ef fun _ z => z, by rw [upd_ne hpp]; exact q3, q4, q5⟩
  · have hj : i ≠ j := fun z => by
      subst z
      rw [List.getElem?_set_self hi] at ej; cases ej
    have hk : i ≠ k := fun z => by
      subst z
      rw [List.getElem?_set_self hi] at ek; cases ek
    rw [List.getElem?_set_ne hj] at ej
    rw [List.getElem?_set_ne hk] at ek
    exact S.ap j k d' e' hjk ej ek
/-- a fresh result is frozen -/
theorem Sta.frzRes (S : Sta K F0 T F G H r σ) {d : D} {v : V} (h : ResOk K T F G H r σ (.fr d) v) : ∃ F', Ex F F' ∧ Sta K F0 T F' G H r σ ∧ Rep K F' d v := by
  obtain ⟨p, rfl, h2, h3, h4, h5, h6⟩ := h
  obtain ⟨o, ho⟩ := h2.there
  have ef : Ex F (upd F p o) := Ex.new h3
  have rp : Rep K (upd F p o) d (.ref p) := by
    cases d with
    | lst ds =>
      obtain ⟨vs, q1, q2⟩ := h2
      rw [ho] at q1; cases q1
      exact ⟨p, vs, rfl, upd_same, RepL.mono ef _ _ q2⟩
    | dic ks ds =>
      obtain ⟨vs, q1, q3, q2⟩ := h2
      rw [ho] at q1; cases q1
      exact ⟨p, vs, rfl, .inl upd_same, q3, RepL.mono ef _ _ q2⟩
    | _ => exact h2.elim
  refine ⟨upd F p o, ef, ⟨S.bas.frz ho h3 h4 h5, S.len, fun j s e => ?_, S.ap⟩, rp⟩
  have q := S.sl j s e
  cases s with
  | no => trivial
  | sh d' => obtain ⟨v, q1, q2⟩ := q; exact ⟨v, q1, Rep.mono ef _ _ q2⟩
  | own d' =>
    obtain ⟨p', q1, q2, q3, q4, q5⟩ := q
    have hpp : p' ≠ p := fun z => by
      subst z
      exact h6 j d' e q1
    exact ⟨p', q1, q2.mono ef fun _ z => z, by rw [upd_ne hpp]; exact q3, q4, q5⟩
/-- the view of a result -/
theorem Sta.view (S : Sta K F0 T F G H r σ) {x : Res} {v : V} {d : D} (h : ResOk K T F G H r σ x v) (e : vw r x = some d) : Vw K F H d v := by
  cases x with
  | sh d' => cases e; exact .inl h
  | fr d' => cases e; obtain ⟨p, h1, h2, _⟩ := h; exact .inr ⟨p, h1, h2⟩
  | pk i =>
    obtain ⟨h1, d', h2⟩ := h
    have e' : (match r[i]? with | some (.own d) => some d | some (.sh d) => some d | _ => none) = some d := e
    rw [h2] at e'
    cases e'
    obtain ⟨p, q1, q2, _⟩ := S.ownS h2
    rw [h1] at q1
    cases q1
    exact .inr ⟨p, rfl, q2⟩
theorem vD_rep {K : PySem.W.Frag} {F : Hp} : ∀ {v : V}, flatR v = true → Rep K F (vD v) v
  | .non, _ => rfl
  | .bl _, _ => rfl
  | .int _, _ => rfl
  | .str _, _ => rfl
  | .ref _, _ => rfl
theorem vD_repL {K : PySem.W.Frag} {F : Hp} : ∀ {vs : List V}, vs.all flatR = true → RepL K F (vs.map vD) vs
  | [], _ => rfl
  | v :: vs, h => by
    rw [List.all_cons, Bool.and_eq_true] at h
    exact ⟨v, vs, rfl, vD_rep h.1, vD_repL h.2⟩
theorem Sta.viewR (S : Sta K F0 T F G H r σ) {x : Res} {v : V} {d : D} (h : ResOk K T F G H r σ x v) (e : VwR r G x d) : Vw K F H d v := by
  rcases e with e | ⟨a, vs, rfl, hG, hf, rfl⟩
  · exact S.view h e
  · cases (show v = .ref a from h)
    exact .inr ⟨a, rfl, vs, S.bas.gh _ _ hG, vD_repL hf⟩
end


/-! ### runs: the canonical readings -/
def Run (X : Cx) (e : Expr) : TE := fun σ H Q => ∀ (pins : List (Addr × Obj)) (s : Shared), Inv X pins σ H s → wpAny (model X.prog X.w) X.A (eval e X.env) (EP X pins σ Q) X.xe s
def RunT (X : Cx) (e : Expr) : TT := fun σ H Q => ∀ (pins : List (Addr × Obj)) (s : Shared), Inv X pins σ H s → wpAny (model X.prog X.w) X.A (isTrue e X.env (eval e X.env)) (TP X pins σ Q) X.xe s
def RunW (X : Cx) (e : Expr) : TT := fun σ H Q => ∀ (whole : Sem Value) (pins : List (Addr × Obj)) (s : Shared), Inv X pins σ H s → wpAny (model X.prog X.w) X.A (isTrue e X.env whole) (TP X pins σ Q) X.xe s
def RunA (X : Cx) (es : List Expr) : TA := fun σ H Q => ∀ (pos : Pos) (pins : List (Addr × Obj)) (s : Shared), Inv X pins σ H s → wpAny (model X.prog X.w) X.A (spliced (backTo pos (starEach es X.env))) (AP X pins σ Q) X.xe s
def RunS (X : Cx) (st : Stmt) : TS := fun D σ H => ∀ (pins : List (Addr × Obj)) (s : Shared), Inv X pins σ H s → wpAny (model X.prog X.w) X.A (exec st X.env) (SP X pins D) X.xe s
def RunB (X : Cx) (st : List Stmt) : TS := fun D σ H => ∀ (pins : List (Addr × Obj)) (s : Shared), Inv X pins σ H s → wpAny (model X.prog X.w) X.A (execs st X.env) (SP X pins D) X.xe s
section
variable {X : Cx} {e : Expr} {es : List Expr} {st : Stmt} {sts : List Stmt} {σ : L2.St} {H : Hp}
theorem peR : PE X e (Run X e) := ⟨fun pins s _ _ _ I h => h pins s I⟩
theorem ptR : PT X e (RunT X e) := ⟨fun pins s _ _ _ I h => h pins s I⟩
theorem pwR : PW X e (RunW X e) := ⟨fun w pins s _ _ _ I h => h w pins s I⟩
theorem paR : PA X es (RunA X es) := ⟨fun pos pins s _ _ _ I h => h pos pins s I⟩
theorem psR : PS X st (RunS X st) := ⟨fun pins s _ _ _ I h => h pins s I⟩
theorem pbR : PSs X sts (RunB X sts) := ⟨fun pins s _ _ _ I h => h pins s I⟩
theorem Run.of {t : TE} {Q : VK} (h : PE X e t) (q : t σ H Q) : Run X e σ H Q := fun pins s I => h.run pins s σ H Q I q
theorem RunT.of {t : TT} {Q : Bool → Hp → Prop} (h : PT X e t) (q : t σ H Q) : RunT X e σ H Q := fun pins s I => h.run pins s σ H Q I q
theorem RunW.of {t : TT} {Q : Bool → Hp → Prop} (h : PW X e t) (q : t σ H Q) : RunW X e σ H Q := fun w pins s I => h.run w pins s σ H Q I q
theorem RunA.of {t : TA} {Q : List V → Hp → Prop} (h : PA X es t) (q : t σ H Q) : RunA X es σ H Q := fun pos pins s I => h.run pos pins s σ H Q I q
theorem RunS.of {t : TS} {D : Ends} (h : PS X st t) (q : t D σ H) : RunS X st D σ H := fun pins s I => h.run pins s σ H D I q
theorem RunB.of {t : TS} {D : Ends} (h : PSs X sts t) (q : t D σ H) : RunB X sts D σ H := fun pins s I => h.run pins s σ H D I q
theorem Run.mono {Q Q' : VK} (h : Run X e σ H Q) (k : ∀ v H', Q v H' → Q' v H') : Run X e σ H Q' := fun pins s I =>
  wpAny_mono (h pins s I) (fun _ _ ⟨v, H', I', r, q⟩ => ⟨v, H', I', r, k v H' q⟩) fun _ _ x => x
theorem RunT.mono {Q Q' : Bool → Hp → Prop} (h : RunT X e σ H Q) (k : ∀ v H', Q v H' → Q' v H') : RunT X e σ H Q' := fun pins s I =>
  wpAny_mono (h pins s I) (fun _ _ ⟨H', I', q⟩ => ⟨H', I', k _ H' q⟩) fun _ _ x => x
theorem RunA.mono {Q Q' : List V → Hp → Prop} (h : RunA X es σ H Q) (k : ∀ v H', Q v H' → Q' v H') : RunA X es σ H Q' := fun pos pins s I =>
  wpAny_mono (h pos pins s I) (fun _ _ ⟨vs, H', I', r, q⟩ => ⟨vs, H', I', r, k _ H' q⟩) fun _ _ x => x
theorem SP.mono {pins : List (Addr × Obj)} {D D' : Ends} {f : Flow} {s : Shared} (h : SP X pins D f s) (k1 : ∀ σ H, D.nx σ H → D'.nx σ H) (k2 : ∀ v H, D.rt v H → D'.rt v H) (k3 : ∀ σ H, D.bk σ H → D'.bk σ H) (k4 : ∀ σ H, D.ct σ H → D'.ct σ H) : SP X pins D' f s := by
  cases f with
  | next => obtain ⟨a, b, c, d⟩ := h; exact ⟨a, b, c, k1 _ _ d⟩
  | brk => obtain ⟨a, b, c, d⟩ := h; exact ⟨a, b, c, k3 _ _ d⟩
  | cont => obtain ⟨a, b, c, d⟩ := h; exact ⟨a, b, c, k4 _ _ d⟩
  | ret u => obtain ⟨v, a, b, c, r, d⟩ := h; exact ⟨v, a, b, c, r, k2 _ _ d⟩
theorem RunS.mono {D D' : Ends} (h : RunS X st D σ H) (k1 : ∀ σ H, D.nx σ H → D'.nx σ H) (k2 : ∀ v H, D.rt v H → D'.rt v H) (k3 : ∀ σ H, D.bk σ H → D'.bk σ H) (k4 : ∀ σ H, D.ct σ H → D'.ct σ H) : RunS X st D' σ H := fun pins s I =>
  wpAny_mono (h pins s I) (fun _ _ q => SP.mono q k1 k2 k3 k4) fun _ _ x => x
theorem RunB.mono {D D' : Ends} (h : RunB X sts D σ H) (k1 : ∀ σ H, D.nx σ H → D'.nx σ H) (k2 : ∀ v H, D.rt v H → D'.rt v H) (k3 : ∀ σ H, D.bk σ H → D'.bk σ H) (k4 : ∀ σ H, D.ct σ H → D'.ct σ H) : RunB X sts D' σ H := fun pins s I =>
  wpAny_mono (h pins s I) (fun _ _ q => SP.mono q k1 k2 k3 k4) fun _ _ x => x
end

/-! ### the judgements over data -/
def PostE (K : PySem.W.Frag) (F0 T F : Hp) (σ : L2.St) (Q : Res → Env2 → Hp → Prop) : VK := fun v H' =>
  ∃ x r' G' F', Ex F F' ∧ Sta K F0 T F' G' H' r' σ ∧ ResOk K T F' G' H' r' σ x v ∧ Q x r' G'
def WE (X : Cx) (e : Expr) (r : Env2) (G : Hp) (Q : Res → Env2 → Hp → Prop) : Prop :=
  ∀ (F0 T F H : Hp) (σ : L2.St), Sta X.K F0 T F G H r σ → Run X e σ H (PostE X.K F0 T F σ Q)
def PostT (K : PySem.W.Frag) (F0 T F : Hp) (σ : L2.St) (Q : Bool → Env2 → Hp → Prop) : Bool → Hp → Prop := fun b H' =>
  ∃ r' G' F', Ex F F' ∧ Sta K F0 T F' G' H' r' σ ∧ Q b r' G'
def WT (X : Cx) (e : Expr) (r : Env2) (G : Hp) (Q : Bool → Env2 → Hp → Prop) : Prop :=
  ∀ (F0 T F H : Hp) (σ : L2.St), Sta X.K F0 T F G H r σ → RunT X e σ H (PostT X.K F0 T F σ Q)
def WW (X : Cx) (e : Expr) (r : Env2) (G : Hp) (Q : Bool → Env2 → Hp → Prop) : Prop :=
  ∀ (F0 T F H : Hp) (σ : L2.St), Sta X.K F0 T F G H r σ → RunW X e σ H (PostT X.K F0 T F σ Q)
def PostA (K : PySem.W.Frag) (F0 T F : Hp) (σ : L2.St) (Q : List D → Env2 → Hp → Prop) : List V → Hp → Prop := fun vs H' =>
  ∃ ds r' G' F', Ex F F' ∧ Sta K F0 T F' G' H' r' σ ∧ RepL K F' ds vs ∧ Q ds r' G'
def WA (X : Cx) (es : List Expr) (r : Env2) (G : Hp) (Q : List D → Env2 → Hp → Prop) : Prop :=
  ∀ (F0 T F H : Hp) (σ : L2.St), Sta X.K F0 T F G H r σ → RunA X es σ H (PostA X.K F0 T F σ Q)
structure EndsD where
  nx : Env2 → Hp → Prop
  rt : Res → Hp → Prop
  bk : Env2 → Hp → Prop := fun _ _ => False
  ct : Env2 → Hp → Prop := fun _ _ => False
def PostN (K : PySem.W.Frag) (F0 T : Hp) (Q : Env2 → Hp → Prop) : L2.St → Hp → Prop := fun σ' H' => ∃ r' G' F', Sta K F0 T F' G' H' r' σ' ∧ Q r' G'
def PostR (K : PySem.W.Frag) (F0 T : Hp) (Q : Res → Hp → Prop) : VK := fun v H' => ∃ x G' F', Bas F0 T F' G' H' ∧ RtOk K T F' G' H' x v ∧ Q x G'
def EndsD.at (K : PySem.W.Frag) (F0 T : Hp) (D : EndsD) : Ends := { nx := PostN K F0 T D.nx, rt := PostR K F0 T D.rt, bk := PostN K F0 T D.bk, ct := PostN K F0 T D.ct }
def WS (X : Cx) (st : Stmt) (r : Env2) (G : Hp) (D : EndsD) : Prop :=
  ∀ (F0 T F H : Hp) (σ : L2.St), Sta X.K F0 T F G H r σ → RunS X st (D.at X.K F0 T) σ H
def WB (X : Cx) (sts : List Stmt) (r : Env2) (G : Hp) (D : EndsD) : Prop :=
  ∀ (F0 T F H : Hp) (σ : L2.St), Sta X.K F0 T F G H r σ → RunB X sts (D.at X.K F0 T) σ H
/-- freezing a result -/
def fz (r : Env2) : Res → Option (D × Env2)
  | .sh d => some (d, r)
  | .fr d => some (d, r)
  | .pk i => match r[i]? with
    | some (.own d) => some (d, r.set i (.sh d))
    | _ => none
section
variable {X : Cx} {e a b c : Expr} {es : List Expr} {st : Stmt} {sts rest : List Stmt} {r : Env2} {G : Hp} {pos : Pos}
theorem Sta.fz {K : PySem.W.Frag} {F0 T F G H : Hp} {r r2 : Env2} {σ : L2.St} {x : Res} {v : V} {d : D} (S : Sta K F0 T F G H r σ) (h : ResOk K T F G H r σ x v) (e : fz r x = some (d, r2)) : ∃ F', Ex F F' ∧ Sta K F0 T F' G H r2 σ ∧ Rep K F' d v := by
  cases x with
  | sh d' => cases e; exact ⟨F, Ex.refl _, S, h⟩
  | fr d' => cases e; exact S.frzRes h
  | pk i =>
    obtain ⟨h1, d', h2⟩ := h
    have e' : (match r[i]? with | some (.own d) => some (d, r.set i (.sh d)) | _ => none) = some (d, r2) := e
    rw [h2] at e'
    cases e'
    obtain ⟨F', k1, k2, v', k3, k4⟩ := S.frzSlot h2
    rw [h1] at k3
    cases k3
    exact ⟨F', k1, k2, k4⟩
theorem WE.mono {Q Q' : Res → Env2 → Hp → Prop} (h : WE X e r G Q) (k : ∀ x r' G', Q x r' G' → Q' x r' G') : WE X e r G Q' := fun F0 T F H σ S =>
  (h F0 T F H σ S).mono fun _ _ ⟨x, r', G', F', a, b, c, q⟩ => ⟨x, r', G', F', a, b, c, k _ _ _ q⟩
theorem WT.mono {Q Q' : Bool → Env2 → Hp → Prop} (h : WT X e r G Q) (k : ∀ x r' G', Q x r' G' → Q' x r' G') : WT X e r G Q' := fun F0 T F H σ S =>
  (h F0 T F H σ S).mono fun _ _ ⟨r', G', F', a, b, q⟩ => ⟨r', G', F', a, b, k _ _ _ q⟩
theorem WB.mono {D D' : EndsD} (h : WB X sts r G D) (k1 : ∀ r G, D.nx r G → D'.nx r G) (k2 : ∀ x G, D.rt x G → D'.rt x G) (k3 : ∀ r G, D.bk r G → D'.bk r G) (k4 : ∀ r G, D.ct r G → D'.ct r G) : WB X sts r G D' := fun F0 T F H σ S =>
  (h F0 T F H σ S).mono (fun _ _ ⟨r', G', F', a, q⟩ => ⟨r', G', F', a, k1 _ _ q⟩) (fun _ _ ⟨x, G', F', a, b, q⟩ => ⟨x, G', F', a, b, k2 _ _ q⟩) (fun _ _ ⟨r', G', F', a, q⟩ => ⟨r', G', F', a, k3 _ _ q⟩) (fun _ _ ⟨r', G', F', a, q⟩ => ⟨r', G', F', a, k4 _ _ q⟩)
theorem WB.weak {r' : Env2} {D : EndsD} (w : Wk r r') (h : WB X sts r' G D) : WB X sts r G D := fun F0 T F H σ S => h F0 T F H σ (S.weak w)

/-! ### names and constants -/
theorem we_const {v : V} {d : D} {Q : Res → Env2 → Hp → Prop} (h : PE X e (tC v)) (hd : ∀ K F, Rep K F d v) (q : Q (.sh d) r G) : WE X e r G Q := fun F0 T F H σ S =>
  Run.of h ⟨.sh d, r, G, F, Ex.refl _, S, hd _ _, q⟩
theorem we_int {i : Int} {j} {Q : Res → Env2 → Hp → Prop} (q : Q (.sh (.int i)) r G) : WE X (.Constant (.int i) j pos) r G Q := we_const (d := .int i) pe_int (fun _ _ => rfl) q
theorem we_bl {i : Bool} {j} {Q : Res → Env2 → Hp → Prop} (q : Q (.sh (.bl i)) r G) : WE X (.Constant (.bool i) j pos) r G Q := we_const (d := .bl i) pe_bl (fun _ _ => rfl) q
theorem we_str {i : Str} {j} {Q : Res → Env2 → Hp → Prop} (q : Q (.sh (.str i)) r G) : WE X (.Constant (.str i) j pos) r G Q := we_const (d := .str i) pe_str (fun _ _ => rfl) q
theorem we_non {j} {Q : Res → Env2 → Hp → Prop} (q : Q (.sh .non) r G) : WE X (.Constant .none j pos) r G Q := we_const (d := .non) pe_non (fun _ _ => rfl) q
/-- what reading a slot gives -/
def rdS (r : Env2) (i : Nat) : Option Res := match r[i]? with
  | some (.sh d) => some (.sh d)
  | some (.own _) => some (.pk i)
  | _ => none
theorem we_var (i : Nat) {x : Str} {y : Res} {Q : Res → Env2 → Hp → Prop} (hN : X.N[i]? = some x) (hv : Vis X.env.scope x) (hy : rdS r i = some y) (q : Q y r G) (hd : (x == ("__debug__" : Str)) = false := by decide) (hcd : (x == ("__classdict__" : Str)) = false := by decide) :
    WE X (.Name x pos) r G Q := fun F0 T F H σ S => by
  refine Run.of (pe_var hN hv hd hcd) ?_
  cases hr : r[i]? with
  | none => unfold rdS at hy; rw [hr] at hy; cases hy
  | some s =>
    unfold rdS at hy
    rw [hr] at hy
    cases s with
    | no => cases hy
    | sh d =>
      cases hy
      obtain ⟨v, h1, h2⟩ := S.slot hr
      exact ⟨v, h1, .sh d, r, G, F, Ex.refl _, S, h2, q⟩
    | own d =>
      cases hy
      obtain ⟨p, h1, h2⟩ := S.ownS hr
      exact ⟨.ref p, h1, .pk i, r, G, F, Ex.refl _, S, ⟨h1, d, hr⟩, q⟩
/-- a constant of the module -/
theorem we_globI {x : Str} {i : Int} {t : Tok} {Q : Res → Env2 → Hp → Prop} (hg : Gl X x) (hm : X.mg x = some (.int i t)) (q : Q (.sh (.int i)) r G) (hd : (x == ("__debug__" : Str)) = false := by decide) : WE X (.Name x pos) r G Q := we_const (v := .int i) (d := .int i) (pe_glob hg hm ⟨t, rfl⟩ hd) (fun _ _ => rfl) q
theorem we_globS {x : Str} {i : Str} {t : Tok} {Q : Res → Env2 → Hp → Prop} (hg : Gl X x) (hm : X.mg x = some (.str i t)) (q : Q (.sh (.str i)) r G) (hd : (x == ("__debug__" : Str)) = false := by decide) : WE X (.Name x pos) r G Q := we_const (v := .str i) (d := .str i) (pe_glob hg hm ⟨t, rfl⟩ hd) (fun _ _ => rfl) q
theorem we_globR {x : Str} {a : Addr} {Q : Res → Env2 → Hp → Prop} (hg : Gl X x) (hm : X.mg x = some (.ref a)) (q : Q (.sh (.adr a)) r G) (hd : (x == ("__debug__" : Str)) = false := by decide) : WE X (.Name x pos) r G Q := we_const (v := .ref a) (d := .adr a) (pe_glob hg hm (v := .ref a) rfl hd) (fun _ _ => rfl) q

/-! ### operators -/
/-- a two-place operation on viewed data -/
def OpW (X : Cx) (f : Value → Value → Sem Value) (da db : D) (Q : Res → Prop) : Prop :=
  ∀ (F0 T F G H : Hp) (r : Env2) (σ : L2.St) (va vb : V), Sta X.K F0 T F G H r σ → Vw X.K F H da va → Vw X.K F H db vb →
    ∃ rr : R2, OpR X f rr ∧ rr va vb H (fun v H' => ∃ x F', Ex F F' ∧ Sta X.K F0 T F' G H' r σ ∧ ResOk X.K T F' G H' r σ x v ∧ Q x)
def opU (X : Cx) (f : Value → Value → Sem Value) : R2 := fun x y H Q => ∃ rr : R2, OpR X f rr ∧ rr x y H Q
theorem opU_ok (f : Value → Value → Sem Value) : OpR X f (opU X f) := fun pins s σ H x y v u Q I rx ry ⟨rr, h1, h2⟩ => h1 pins s σ H x y v u Q I rx ry h2
/-- a held result, its view at a later state -/
theorem hold {K : PySem.W.Frag} {F0 T F G H : Hp} {r : Env2} {σ : L2.St} {x : Res} {v : V} (S : Sta K F0 T F G H r σ) (h : ResOk K T F G H r σ x v) :
    ∃ F1, Ex F F1 ∧ Sta K F0 T F1 G H r σ ∧ ∀ (F2 G2 H2 : Hp) (r2 : Env2) (d : D), Ex F1 F2 → Sta K F0 T F2 G2 H2 r2 σ → VwR r2 G2 x d → Vw K F2 H2 d v := by
  have red : ∀ (F2 G2 H2 : Hp) (r2 : Env2) (d : D), Sta K F0 T F2 G2 H2 r2 σ → (vw r2 x = some d → Vw K F2 H2 d v) → VwR r2 G2 x d → Vw K F2 H2 d v := fun F2 G2 H2 r2 d S2 k e => by
    rcases e with e | ⟨a, vs, rfl, hG, hf, rfl⟩
    · exact k e
    · cases (show v = .ref a from h)
      exact .inr ⟨a, rfl, vs, S2.bas.gh _ _ hG, vD_repL hf⟩
  cases x with
  | sh d => exact ⟨F, Ex.refl _, S, fun F2 G2 H2 r2 d' ex S2 e => red F2 G2 H2 r2 d' S2 (fun e => by cases e; exact .inl (Rep.mono ex _ _ h)) e⟩
  | fr d =>
    obtain ⟨F1, k1, k2, k3⟩ := S.frzRes h
    exact ⟨F1, k1, k2, fun F2 G2 H2 r2 d' ex S2 e => red F2 G2 H2 r2 d' S2 (fun e => by cases e; exact .inl (Rep.mono ex _ _ k3)) e⟩
  | pk i =>
    refine ⟨F, Ex.refl _, S, fun F2 G2 H2 r2 d' ex S2 e => red F2 G2 H2 r2 d' S2 (fun e => ?_) e⟩
    obtain ⟨h1, d, h2⟩ := h
    have e' : (match r2[i]? with | some (.own d) => some d | some (.sh d) => some d | _ => none) = some d' := e
    cases hr : r2[i]? with
    | none => rw [hr] at e'; cases e'
    | some s =>
      rw [hr] at e'
      cases s with
      | no => cases e'
      | sh d2 =>
        cases e'
        obtain ⟨v', q1, q2⟩ := S2.slot hr
        rw [h1] at q1; cases q1
        exact .inl q2
      | own d2 =>
        cases e'
        obtain ⟨p, q1, q2, _⟩ := S2.ownS hr
        rw [h1] at q1; cases q1
        exact .inr ⟨p, rfl, q2⟩
/-- two operands, then an operation -/
theorem two {f : Value → Value → Sem Value} {Q : Res → Env2 → Hp → Prop} {F0 T F H : Hp} {σ : L2.St} (S : Sta X.K F0 T F G H r σ)
    (h : WE X a r G fun x r1 G1 => WE X b r1 G1 fun y r2 G2 => ∃ da db, VwR r2 G2 x da ∧ VwR r2 G2 y db ∧ OpW X f da db fun z => Q z r2 G2) :
    tOp (opU X f) (Run X a) (Run X b) σ H (PostE X.K F0 T F σ Q) := by
  refine (h F0 T F H σ S).mono fun va H1 ⟨x, r1, G1, F1, e1, S1, k1, h1⟩ => ?_
  obtain ⟨F1', e1', S1', hv⟩ := hold S1 k1
  refine (h1 F0 T F1' H1 σ S1').mono fun vb H2 ⟨y, r2, G2, F2, e2, S2, k2, da, db, q1, q2, q3⟩ => ?_
  obtain ⟨rr, h3, h4⟩ := q3 F0 T F2 G2 H2 r2 σ va vb S2 (hv F2 G2 H2 r2 da e2 S2 q1) (S2.viewR k2 q2)
  have post : (fun v H' => ∃ z F', Ex F2 F' ∧ Sta X.K F0 T F' G2 H' r2 σ ∧ ResOk X.K T F' G2 H' r2 σ z v ∧ Q z r2 G2) = (fun v H' => ∃ z F', Ex F2 F' ∧ Sta X.K F0 T F' G2 H' r2 σ ∧ ResOk X.K T F' G2 H' r2 σ z v ∧ Q z r2 G2) := rfl
  refine ⟨fun u w H Q' => rr u w H (fun v H' => ∃ z F', Ex F2 F' ∧ Sta X.K F0 T F' G2 H' r2 σ ∧ ResOk X.K T F' G2 H' r2 σ z v ∧ Q z r2 G2) ∧ ∀ v H', (∃ z F', Ex F2 F' ∧ Sta X.K F0 T F' G2 H' r2 σ ∧ ResOk X.K T F' G2 H' r2 σ z v ∧ Q z r2 G2) → Q' v H', fun pins s σ H x y v u Q' I rx ry ⟨q, m⟩ => ?_, h4, fun v H' ⟨z, F', m1, m2, m3, m4⟩ => ⟨z, r2, G2, F', ((e1.trans e1').trans e2).trans m1, m2, m3, m4⟩⟩
  exact wpAny_mono (h3 pins s σ H x y v u _ I rx ry q) (fun _ _ ⟨v, H', I', rl, q⟩ => ⟨v, H', I', rl, m v H' q⟩) fun _ _ x => x
theorem we_bin {op : Operator} {Q : Res → Env2 → Hp → Prop}
    (h : WE X a r G fun x r1 G1 => WE X b r1 G1 fun y r2 G2 => ∃ da db, VwR r2 G2 x da ∧ VwR r2 G2 y db ∧ OpW X (binaryOp op) da db fun z => Q z r2 G2) : WE X (.BinOp a op b pos) r G Q :=
  fun _ _ _ _ _ S => Run.of (pe_op (opU_ok _) peR peR) (two S h)
theorem we_cmp {op : CmpOp} {Q : Res → Env2 → Hp → Prop} (hm : behindInMarks op b = false)
    (h : WE X a r G fun x r1 G1 => WE X b r1 G1 fun y r2 G2 => ∃ da db, VwR r2 G2 x da ∧ VwR r2 G2 y db ∧ OpW X (compareOp op) da db fun z => Q z r2 G2) : WE X (.Compare a [op] [b] pos) r G Q :=
  fun _ _ _ _ _ S => Run.of (pe_cmpR (opU_ok _) peR peR hm) (two S h)
/-- the result is a truth value -/
def isB (Q : Bool → Env2 → Hp → Prop) : Res → Env2 → Hp → Prop := fun x r G => ∃ c, x = .sh (.bl c) ∧ Q c r G
theorem postB {K : PySem.W.Frag} {F0 T F : Hp} {σ : L2.St} {Q : Bool → Env2 → Hp → Prop} {v : V} {H' : Hp} (h : PostE K F0 T F σ (isB Q) v H') : ∃ c, v = .bl c ∧ PostT K F0 T F σ Q c H' := by
  obtain ⟨x, r', G', F', k1, k2, k3, c, rfl, k4⟩ := h
  exact ⟨c, k3, r', G', F', k1, k2, k4⟩
theorem wt_cmp {op : CmpOp} {Q : Bool → Env2 → Hp → Prop} (hm : behindInMarks op b = false)
    (h : WE X a r G fun x r1 G1 => WE X b r1 G1 fun y r2 G2 => ∃ da db, VwR r2 G2 x da ∧ VwR r2 G2 y db ∧ OpW X (compareOp op) da db fun z => isB Q z r2 G2) : WT X (.Compare a [op] [b] pos) r G Q :=
  fun F0 T F H σ S => RunT.of (pt_cmpR (opU_ok _) peR peR hm) (by
    have q := two (Q := isB Q) S h
    refine Run.mono q fun va H1 q1 => Run.mono q1 fun vb H2 ⟨rr, h3, h4⟩ => ⟨fun u w H Q' => rr u w H (PostE X.K F0 T F σ (isB Q)) ∧ ∀ v H', PostE X.K F0 T F σ (isB Q) v H' → Q' v H', fun pins s σ H x y v u Q' I rx ry ⟨q, m⟩ => ?_, h4, fun v H' z => postB z⟩
    exact wpAny_mono (h3 pins s σ H x y v u _ I rx ry q) (fun _ _ ⟨v, H', I', rl, q⟩ => ⟨v, H', I', rl, m v H' q⟩) fun _ _ x => x)
/-- a value as a test -/
theorem wt_val {Q : Bool → Env2 → Hp → Prop} (he : ∀ whole, isTrue e X.env whole = (do let v ← whole; standAt e.pos; holding [v] (truthy v))) (h : WE X e r G (isB Q)) : WT X e r G Q :=
  fun F0 T F H σ S => RunT.of (pt_val peR he) ((h F0 T F H σ S).mono fun v H' q => postB q)
theorem wt_not {Q : Bool → Env2 → Hp → Prop} (h : WT X a r G fun c => Q (!c)) : WT X (.UnaryOp .Not a pos) r G Q :=
  fun F0 T F H σ S => RunT.of (pt_not ptR) (h F0 T F H σ S)
theorem wt_w {Q : Bool → Env2 → Hp → Prop} (h : WW X e r G Q) : WT X e r G Q := fun F0 T F H σ S pins s I => h F0 T F H σ S _ pins s I
theorem ww_and1 {Q : Bool → Env2 → Hp → Prop} (h : WT X a r G Q) : WW X (.BoolOp .And [a] pos) r G Q := fun F0 T F H σ S => RunW.of (pw_and1 ptR) (h F0 T F H σ S)
theorem ww_or1 {Q : Bool → Env2 → Hp → Prop} (h : WT X a r G Q) : WW X (.BoolOp .Or [a] pos) r G Q := fun F0 T F H σ S => RunW.of (pw_or1 ptR) (h F0 T F H σ S)
theorem ww_and {Q : Bool → Env2 → Hp → Prop} (h : WT X a r G fun c r1 G1 => (c = true → WW X (.BoolOp .And (b :: es) pos) r1 G1 Q) ∧ (c = false → Q false r1 G1)) : WW X (.BoolOp .And (a :: b :: es) pos) r G Q := fun F0 T F H σ S =>
  RunW.of (pw_and ptR pwR) ((h F0 T F H σ S).mono fun c H1 ⟨r1, G1, F1, e1, S1, q1, q2⟩ => by
    cases c with
    | true => rw [if_pos rfl]; exact fun w pins s I => wpAny_mono (q1 rfl F0 T F1 H1 σ S1 w pins s I) (fun _ _ ⟨H', I', r', G', F', k1, k2, k3⟩ => ⟨H', I', r', G', F', e1.trans k1, k2, k3⟩) fun _ _ x => x
    | false => rw [if_neg Bool.false_ne_true]; exact ⟨r1, G1, F1, e1, S1, q2 rfl⟩)
theorem ww_or {Q : Bool → Env2 → Hp → Prop} (h : WT X a r G fun c r1 G1 => (c = false → WW X (.BoolOp .Or (b :: es) pos) r1 G1 Q) ∧ (c = true → Q true r1 G1)) : WW X (.BoolOp .Or (a :: b :: es) pos) r G Q := fun F0 T F H σ S =>
  RunW.of (pw_or ptR pwR) ((h F0 T F H σ S).mono fun c H1 ⟨r1, G1, F1, e1, S1, q1, q2⟩ => by
    cases c with
    | true => rw [if_pos rfl]; exact ⟨r1, G1, F1, e1, S1, q2 rfl⟩
    | false => rw [if_neg Bool.false_ne_true]; exact fun w pins s I => wpAny_mono (q1 rfl F0 T F1 H1 σ S1 w pins s I) (fun _ _ ⟨H', I', r', G', F', k1, k2, k3⟩ => ⟨H', I', r', G', F', e1.trans k1, k2, k3⟩) fun _ _ x => x)
/-- and, or, not as values (truth values) -/
theorem PostE.ext {K : PySem.W.Frag} {F0 T F F1 : Hp} {σ : L2.St} {Q : Res → Env2 → Hp → Prop} (e : Ex F F1) {v : V} {H : Hp} (h : PostE K F0 T F1 σ Q v H) : PostE K F0 T F σ Q v H := by
  obtain ⟨x, r', G', F', k1, k2⟩ := h
  exact ⟨x, r', G', F', e.trans k1, k2⟩
theorem we_one {op} {Q : Res → Env2 → Hp → Prop} (h : WE X a r G Q) : WE X (.BoolOp op [a] pos) r G Q := fun F0 T F H σ S => Run.of (pe_one peR) (h F0 T F H σ S)
theorem we_and {Q : Res → Env2 → Hp → Prop} (h : WE X a r G (isB fun c r1 G1 => (c = true → WE X (.BoolOp .And (b :: es) pos) r1 G1 Q) ∧ (c = false → Q (.sh (.bl false)) r1 G1))) : WE X (.BoolOp .And (a :: b :: es) pos) r G Q := fun F0 T F H σ S =>
  Run.of (pe_and peR peR) ((h F0 T F H σ S).mono fun v H1 q => by
    obtain ⟨c, rfl, r1, G1, F1, e1, S1, q1, q2⟩ := postB q
    refine ⟨c, rfl, ?_⟩
    cases c with
    | true => rw [if_pos rfl]; exact (q1 rfl F0 T F1 H1 σ S1).mono fun _ _ z => z.ext e1
    | false => rw [if_neg Bool.false_ne_true]; exact ⟨.sh (.bl false), r1, G1, F1, e1, S1, rfl, q2 rfl⟩)
theorem we_or {Q : Res → Env2 → Hp → Prop} (h : WE X a r G (isB fun c r1 G1 => (c = false → WE X (.BoolOp .Or (b :: es) pos) r1 G1 Q) ∧ (c = true → Q (.sh (.bl true)) r1 G1))) : WE X (.BoolOp .Or (a :: b :: es) pos) r G Q := fun F0 T F H σ S =>
  Run.of (pe_or peR peR) ((h F0 T F H σ S).mono fun v H1 q => by
    obtain ⟨c, rfl, r1, G1, F1, e1, S1, q1, q2⟩ := postB q
    refine ⟨c, rfl, ?_⟩
    cases c with
    | true => rw [if_pos rfl]; exact ⟨.sh (.bl true), r1, G1, F1, e1, S1, rfl, q2 rfl⟩
    | false => rw [if_neg Bool.false_ne_true]; exact (q1 rfl F0 T F1 H1 σ S1).mono fun _ _ z => z.ext e1)
theorem we_not {Q : Res → Env2 → Hp → Prop} (h : WE X a r G (isB fun c r1 G1 => Q (.sh (.bl (!c))) r1 G1)) : WE X (.UnaryOp .Not a pos) r G Q := fun F0 T F H σ S =>
  Run.of (pe_not peR) ((h F0 T F H σ S).mono fun v H1 q => by
    obtain ⟨c, rfl, r1, G1, F1, e1, S1, q1⟩ := postB q
    exact ⟨c, rfl, .sh (.bl (!c)), r1, G1, F1, e1, S1, rfl, q1⟩)
theorem we_ifExp {Q : Res → Env2 → Hp → Prop} (h : WT X c r G fun d r1 G1 => (d = true → WE X a r1 G1 Q) ∧ (d = false → WE X b r1 G1 Q)) : WE X (.IfExp c a b pos) r G Q := fun F0 T F H σ S =>
  Run.of (pe_ifExp ptR peR peR) ((h F0 T F H σ S).mono fun d H1 ⟨r1, G1, F1, e1, S1, q1, q2⟩ => by
    cases d with
    | true => rw [if_pos rfl]; exact (q1 rfl F0 T F1 H1 σ S1).mono fun _ _ z => z.ext e1
    | false => rw [if_neg Bool.false_ne_true]; exact (q2 rfl F0 T F1 H1 σ S1).mono fun _ _ z => z.ext e1)

/-! ### argument lists, displays -/
theorem wa_nil {Q : List D → Env2 → Hp → Prop} (q : Q [] r G) : WA X [] r G Q := fun F0 T F H σ S => RunA.of pa_nil ⟨[], r, G, F, Ex.refl _, S, rfl, q⟩
theorem PostA.ext {K : PySem.W.Frag} {F0 T F F1 : Hp} {σ : L2.St} {Q : List D → Env2 → Hp → Prop} (e : Ex F F1) {v : List V} {H : Hp} (h : PostA K F0 T F1 σ Q v H) : PostA K F0 T F σ Q v H := by
  obtain ⟨x, r', G', F', k1, k2⟩ := h
  exact ⟨x, r', G', F', e.trans k1, k2⟩
theorem wa_cons {Q : List D → Env2 → Hp → Prop} (h : WE X e r G fun x r1 G1 => ∃ d r2, fz r1 x = some (d, r2) ∧ WA X es r2 G1 fun ds r3 G3 => Q (d :: ds) r3 G3)
    (hs : starEach (e :: es) X.env = (false, eval e X.env) :: starEach es X.env := by rfl) : WA X (e :: es) r G Q := fun F0 T F H σ S =>
  RunA.of (pa_cons peR paR hs) ((h F0 T F H σ S).mono fun v H1 ⟨x, r1, G1, F1, e1, S1, k1, d, r2, q1, q2⟩ => by
    obtain ⟨F2, e2, S2, rp⟩ := S1.fz k1 q1
    refine (q2 F0 T F2 H1 σ S2).mono fun vs H3 ⟨ds, r3, G3, F3, e3, S3, k3, q3⟩ => ?_
    exact ⟨d :: ds, r3, G3, F3, (e1.trans e2).trans e3, S3, ⟨v, vs, rfl, Rep.mono e3 _ _ rp, k3⟩, q3⟩)
/-- how many items a display may have -/
abbrev LIM : Nat := 100000
theorem lim_ok {n : Nat} (h : n ≤ LIM) : n ≤ sizeLine := Nat.le_trans h (by decide)
theorem lim_lt {n : Nat} (h : n < LIM) : n < sizeLine := Nat.lt_of_lt_of_le h (by decide)
theorem we_tup {k} {Q : Res → Env2 → Hp → Prop} (h : WA X es r G fun ds r1 G1 => ds.length ≤ LIM ∧ Q (.sh (.tup ds)) r1 G1) : WE X (.Tuple es k pos) r G Q := fun F0 T F H σ S =>
  Run.of (pe_tup paR) ((h F0 T F H σ S).mono fun vs H1 ⟨ds, r1, G1, F1, e1, S1, k1, hl, q⟩ => ⟨by rw [k1.length]; exact lim_ok hl, fun p hp => by
    have ef : Ex F1 (upd F1 p (.tup vs)) := Ex.new (S1.bas.freshF hp).1
    exact ⟨.sh (.tup ds), r1, G1, upd F1 p (.tup vs), e1.trans ef, S1.newF hp, ⟨p, vs, rfl, .inl (.inl upd_same), RepL.mono ef _ _ k1⟩, q⟩⟩)
theorem we_lst {Q : Res → Env2 → Hp → Prop} (h : WA X es r G fun ds r1 G1 => ds.length ≤ LIM ∧ Q (.fr (.lst ds)) r1 G1) : WE X (.List es pos) r G Q := fun F0 T F H σ S =>
  Run.of (pe_lst paR) ((h F0 T F H σ S).mono fun vs H1 ⟨ds, r1, G1, F1, e1, S1, k1, hl, q⟩ => ⟨by rw [k1.length]; exact lim_ok hl, fun p hp => by
    obtain ⟨h1, h2, h3⟩ := S1.bas.freshF hp
    exact ⟨.fr (.lst ds), r1, G1, F1, e1, S1.newH hp, ⟨p, rfl, ⟨vs, upd_same, k1⟩, h1, h2, h3, S1.freshR hp⟩, q⟩⟩)
end


section
variable {X : Cx} {e a b c : Expr} {es : List Expr} {st : Stmt} {sts rest : List Stmt} {r : Env2} {G : Hp} {pos : Pos} {Q : Res → Prop}
/-! ### operators on data -/
theorem opw_flat {f : Value → Value → Sem Value} {da db d : D} {v : V} (hd : ∀ K F, Rep K F d v) (h : ∀ F H va vb, Ex F H → Vw X.K F H da va → Vw X.K F H db vb → ∃ rr, OpR X f rr ∧ ∀ P : VK, P v H → rr va vb H P) (q : Q (.sh d)) : OpW X f da db Q :=
  fun F0 T F G H r σ va vb S h1 h2 => by
    obtain ⟨rr, k1, k2⟩ := h F H va vb S.bas.fh h1 h2
    exact ⟨rr, k1, k2 _ ⟨.sh d, F, Ex.refl _, S, hd _ _, q⟩⟩
theorem opw_add {i j : Int} (q : Q (.sh (.int (i + j)))) : OpW X (binaryOp .Add) (.int i) (.int j) Q :=
  opw_flat (d := .int (i + j)) (v := .int (i + j)) (fun _ _ => rfl) (fun F H va vb _ h1 h2 => ⟨_, op_add, fun P p => ⟨i, j, h1.int, h2.int, p⟩⟩) q
theorem opw_sub {i j : Int} (q : Q (.sh (.int (i - j)))) : OpW X (binaryOp .Sub) (.int i) (.int j) Q :=
  opw_flat (d := .int (i - j)) (v := .int (i - j)) (fun _ _ => rfl) (fun F H va vb _ h1 h2 => ⟨_, op_sub, fun P p => ⟨i, j, h1.int, h2.int, p⟩⟩) q
theorem opw_mul {i j : Int} (hc : (-(2 ^ 64) < i ∧ i < 2 ^ 64) ∨ (-(2 ^ 64) < j ∧ j < 2 ^ 64)) (q : Q (.sh (.int (i * j)))) : OpW X (binaryOp .Mult) (.int i) (.int j) Q :=
  opw_flat (d := .int (i * j)) (v := .int (i * j)) (fun _ _ => rfl) (fun F H va vb _ h1 h2 => ⟨_, op_mul, fun P p => ⟨i, j, h1.int, h2.int, hc, p⟩⟩) q
theorem opw_fdiv {i j : Int} (hc : 0 < j ∧ j < 1073741824) (q : Q (.sh (.int (i / j)))) : OpW X (binaryOp .FloorDiv) (.int i) (.int j) Q :=
  opw_flat (d := .int (i / j)) (v := .int (i / j)) (fun _ _ => rfl) (fun F H va vb _ h1 h2 => ⟨_, op_fdiv, fun P p => ⟨i, j, h1.int, h2.int, hc, p⟩⟩) q
theorem opw_mod {i j : Int} (hc : 0 < j) (q : Q (.sh (.int (i % j)))) : OpW X (binaryOp .Mod) (.int i) (.int j) Q :=
  opw_flat (d := .int (i % j)) (v := .int (i % j)) (fun _ _ => rfl) (fun F H va vb _ h1 h2 => ⟨_, op_mod, fun P p => ⟨i, j, h1.int, h2.int, hc, p⟩⟩) q
theorem opw_pow {i j : Int} (hc : 0 ≤ j ∧ j ≤ 1000000 ∧ i.natAbs < 2 ^ 64) (q : Q (.sh (.int (i ^ j.toNat)))) : OpW X (binaryOp .Pow) (.int i) (.int j) Q :=
  opw_flat (d := .int (i ^ j.toNat)) (v := .int (i ^ j.toNat)) (fun _ _ => rfl) (fun F H va vb _ h1 h2 => ⟨_, op_pow, fun P p => ⟨i, j, h1.int, h2.int, hc, p⟩⟩) q
theorem opw_lt {i j : Int} (q : Q (.sh (.bl (decide (i < j))))) : OpW X (compareOp .Lt) (.int i) (.int j) Q :=
  opw_flat (d := .bl (decide (i < j))) (v := .bl (decide (i < j))) (fun _ _ => rfl) (fun F H va vb _ h1 h2 => ⟨_, op_lt, fun P p => ⟨i, j, h1.int, h2.int, p⟩⟩) q
theorem opw_le {i j : Int} (q : Q (.sh (.bl (decide (i ≤ j))))) : OpW X (compareOp .LtE) (.int i) (.int j) Q :=
  opw_flat (d := .bl (decide (i ≤ j))) (v := .bl (decide (i ≤ j))) (fun _ _ => rfl) (fun F H va vb _ h1 h2 => ⟨_, op_le, fun P p => ⟨i, j, h1.int, h2.int, p⟩⟩) q
theorem opw_gt {i j : Int} (q : Q (.sh (.bl (decide (j < i))))) : OpW X (compareOp .Gt) (.int i) (.int j) Q :=
  opw_flat (d := .bl (decide (j < i))) (v := .bl (decide (j < i))) (fun _ _ => rfl) (fun F H va vb _ h1 h2 => ⟨_, op_gt, fun P p => ⟨i, j, h1.int, h2.int, p⟩⟩) q
theorem opw_ge {i j : Int} (q : Q (.sh (.bl (decide (j ≤ i))))) : OpW X (compareOp .GtE) (.int i) (.int j) Q :=
  opw_flat (d := .bl (decide (j ≤ i))) (v := .bl (decide (j ≤ i))) (fun _ _ => rfl) (fun F H va vb _ h1 h2 => ⟨_, op_ge, fun P p => ⟨i, j, h1.int, h2.int, p⟩⟩) q
theorem vint_eq (i j : Int) : decide (V.int i = V.int j) = decide (i = j) := by
  by_cases h : i = j
  · subst h; simp
  · simp [h]
theorem vstr_eq (i j : Str) : decide (V.str i = V.str j) = decide (i = j) := by
  by_cases h : i = j
  · subst h; simp
  · simp [h]
theorem vbl_eq (i j : Bool) : decide (V.bl i = V.bl j) = (i == j) := by cases i <;> cases j <;> decide
theorem opw_eqI {i j : Int} (q : Q (.sh (.bl (decide (i = j))))) : OpW X (compareOp .Eq) (.int i) (.int j) Q :=
  opw_flat (d := .bl (decide (i = j))) (v := .bl (decide (i = j))) (fun _ _ => rfl) (fun F H va vb _ h1 h2 => ⟨_, op_eq, fun P p => by cases h1.int; cases h2.int; exact ⟨rfl, by rw [vint_eq]; exact p⟩⟩) q
theorem opw_neI {i j : Int} (q : Q (.sh (.bl (!decide (i = j))))) : OpW X (compareOp .NotEq) (.int i) (.int j) Q :=
  opw_flat (d := .bl (!decide (i = j))) (v := .bl (!decide (i = j))) (fun _ _ => rfl) (fun F H va vb _ h1 h2 => ⟨_, op_ne, fun P p => by cases h1.int; cases h2.int; exact ⟨rfl, by rw [vint_eq]; exact p⟩⟩) q
theorem opw_eqS {i j : Str} (q : Q (.sh (.bl (decide (i = j))))) : OpW X (compareOp .Eq) (.str i) (.str j) Q :=
  opw_flat (d := .bl (decide (i = j))) (v := .bl (decide (i = j))) (fun _ _ => rfl) (fun F H va vb _ h1 h2 => ⟨_, op_eq, fun P p => by cases h1.str; cases h2.str; exact ⟨rfl, by rw [vstr_eq]; exact p⟩⟩) q
theorem opw_neS {i j : Str} (q : Q (.sh (.bl (!decide (i = j))))) : OpW X (compareOp .NotEq) (.str i) (.str j) Q :=
  opw_flat (d := .bl (!decide (i = j))) (v := .bl (!decide (i = j))) (fun _ _ => rfl) (fun F H va vb _ h1 h2 => ⟨_, op_ne, fun P p => by cases h1.str; cases h2.str; exact ⟨rfl, by rw [vstr_eq]; exact p⟩⟩) q
theorem opw_eqB {i j : Bool} (q : Q (.sh (.bl (i == j)))) : OpW X (compareOp .Eq) (.bl i) (.bl j) Q :=
  opw_flat (d := .bl (i == j)) (v := .bl (i == j)) (fun _ _ => rfl) (fun F H va vb _ h1 h2 => ⟨_, op_eq, fun P p => by cases h1.bl; cases h2.bl; exact ⟨rfl, by rw [vbl_eq]; exact p⟩⟩) q
theorem opw_neB {i j : Bool} (q : Q (.sh (.bl (!(i == j))))) : OpW X (compareOp .NotEq) (.bl i) (.bl j) Q :=
  opw_flat (d := .bl (!(i == j))) (v := .bl (!(i == j))) (fun _ _ => rfl) (fun F H va vb _ h1 h2 => ⟨_, op_ne, fun P p => by cases h1.bl; cases h2.bl; exact ⟨rfl, by rw [vbl_eq]; exact p⟩⟩) q
/-- is None -/
def isNon : D → Bool
  | .non => true
  | _ => false
theorem vw_non {K : PySem.W.Frag} {F H : Hp} {d : D} {v : V} (h : Vw K F H d v) : decide (v = .non) = isNon d := by
  rcases h with h | ⟨p, rfl, h⟩
  · cases d with
    | non => cases (show v = .non from h); rfl
    | bl b => cases (show v = .bl b from h); rfl
    | int b => cases (show v = .int b from h); rfl
    | str b => cases (show v = .str b from h); rfl
    | tup b => obtain ⟨a, vs, rfl, _⟩ := h; rfl
    | lst b => obtain ⟨a, vs, rfl, _⟩ := h; rfl
    | dic ks b => obtain ⟨a, vs, rfl, _⟩ := h; rfl
    | ins C b => obtain ⟨a, dx, vs, rfl, _⟩ := h; rfl
    | adr b => cases (show v = .ref b from h); rfl
  · cases d with
    | lst b => rfl
    | dic ks b => rfl
    | _ => exact h.elim
theorem opw_isN {d : D} (q : Q (.sh (.bl (isNon d)))) : OpW X (compareOp .Is) d .non Q :=
  opw_flat (d := .bl (isNon d)) (v := .bl (isNon d)) (fun _ _ => rfl) (fun F H va vb _ h1 h2 => ⟨_, op_isN, fun P p => ⟨h2.non, by rw [vw_non h1]; exact p⟩⟩) q
theorem opw_notN {d : D} (q : Q (.sh (.bl (!isNon d)))) : OpW X (compareOp .IsNot) d .non Q :=
  opw_flat (d := .bl (!isNon d)) (v := .bl (!isNon d)) (fun _ _ => rfl) (fun F H va vb _ h1 h2 => ⟨_, op_notN, fun P p => ⟨h2.non, by rw [vw_non h1]; exact p⟩⟩) q
/-- lists and tuples joined -/
theorem opw_cat {xs ys : List D} (hl : xs.length + ys.length ≤ LIM) (q : Q (.fr (.lst (xs ++ ys)))) : OpW X (binaryOp .Add) (.lst xs) (.lst ys) Q :=
  fun F0 T F G H r σ va vb S h1 h2 => by
    obtain ⟨p1, vs, rfl, k1, k2⟩ := h1.lst S.bas.fh
    obtain ⟨p2, us, rfl, k3, k4⟩ := h2.lst S.bas.fh
    exact ⟨_, op_cat, p1, p2, vs, us, rfl, rfl, k1, k3, by rw [k2.length, k4.length]; exact lim_ok hl, fun p hp => by
      obtain ⟨f1, f2, f3⟩ := S.bas.freshF hp
      exact ⟨.fr (.lst (xs ++ ys)), F, Ex.refl _, S.newH hp, ⟨p, rfl, ⟨vs ++ us, upd_same, k2.append k4⟩, f1, f2, f3, S.freshR hp⟩, q⟩⟩

theorem opw_catT {xs ys : List D} (hl : xs.length + ys.length ≤ LIM) (q : Q (.sh (.tup (xs ++ ys)))) : OpW X (binaryOp .Add) (.tup xs) (.tup ys) Q :=
  fun F0 T F G H r σ va vb S h1 h2 => by
    obtain ⟨p1, vs, rfl, k1, k2⟩ := h1.tup S.bas.fh
    obtain ⟨p2, us, rfl, k3, k4⟩ := h2.tup S.bas.fh
    have r1 : Rep X.K F (.tup xs) (.ref p1) := by
      rcases h1 with h | ⟨_, _, h⟩
      · exact h
      · exact h.elim
    have r2 : Rep X.K F (.tup ys) (.ref p2) := by
      rcases h2 with h | ⟨_, _, h⟩
      · exact h
      · exact h.elim
    refine ⟨_, op_catA, p1, p2, vs, us, rfl, rfl, k1, k3, by rw [k2.length, k4.length]; exact lim_ok hl, fun e => ?_, fun _ e => ?_, fun _ _ p hp => ?_⟩
    · have e1 : xs = [] := by have := k2.length; rw [e] at this; exact List.length_eq_zero_iff.mp this.symm
      subst e1
      exact ⟨.sh (.tup ys), F, Ex.refl _, S, r2, q⟩
    · have e1 : ys = [] := by have := k4.length; rw [e] at this; exact List.length_eq_zero_iff.mp this.symm
      subst e1
      refine ⟨.sh (.tup (xs ++ [])), F, Ex.refl _, S, ?_, q⟩
      rw [List.append_nil]
      exact r1
    · have ef : Ex F (upd F p (.tup (vs ++ us))) := Ex.new (S.bas.freshF hp).1
      exact ⟨.sh (.tup (xs ++ ys)), upd F p (.tup (vs ++ us)), ef, S.newF hp, ⟨p, vs ++ us, rfl, .inl (.inl upd_same), RepL.mono ef _ _ (k2.append k4)⟩, q⟩

/-! ### deep == -/
mutual
def toP : D → PyData
  | .non => .none
  | .bl b => .bool b
  | .int i => .int i
  | .str x => .str x
  | .tup ds => .tuple (toPs ds)
  | .lst ds => .list (toPs ds)
  | _ => .none
def toPs : List D → List PyData
  | [] => []
  | d :: ds => toP d :: toPs ds
end
def okD : Nat → D → Prop
  | _, .non => True
  | _, .bl _ => True
  | _, .int _ => True
  | _, .str x => PyData.strOk x = true
  | n + 1, .tup ds => ∀ d ∈ ds, okD n d
  | n + 1, .lst ds => ∀ d ∈ ds, okD n d
  | _, _ => False
theorem okD.dp {K : PySem.W.Frag} {F H : Hp} (e : Ex F H) : ∀ (n : Nat) (d : D) (v : V), okD n d → Vw K F H d v → Dp K H v (toP d) := by
  have all : ∀ n, (∀ (d : D) (v : V), okD n d → Vw K F H d v → Dp K H v (toP d)) → ∀ (ds : List D) (vs : List V), (∀ d ∈ ds, okD n d) → RepL K F ds vs → DpAll K H vs (toPs ds) := by
    intro n ih ds
    induction ds with
    | nil => intro vs _ h; cases (show vs = [] from h); exact .nil
    | cons d ds ih2 =>
      intro vs hk h
      obtain ⟨v, r, rfl, h1, h2⟩ := h
      exact .cons (ih d v (hk d List.mem_cons_self) (.inl h1)) (ih2 r (fun x hx => hk x (List.mem_cons_of_mem _ hx)) h2)
  intro n
  induction n with
  | zero =>
    intro d v hk h
    cases d with
    | non => cases h.non; exact .non
    | bl b => cases h.bl; exact .bl b
    | int b => cases h.int; exact .int b
    | str b => cases h.str; exact .str b
    | _ => exact hk.elim
  | succ n ih =>
    intro d v hk h
    cases d with
    | non => cases h.non; exact .non
    | bl b => cases h.bl; exact .bl b
    | int b => cases h.int; exact .int b
    | str b => cases h.str; exact .str b
    | tup ds =>
      obtain ⟨a, vs, rfl, h1, h2⟩ := h.tup e
      exact .tup h1 (all n ih ds vs hk h2)
    | lst ds =>
      obtain ⟨a, vs, rfl, h1, h2⟩ := h.lst e
      exact .lst (.inl (.inl h1)) (all n ih ds vs hk h2)
    | _ => exact hk.elim
theorem okD.dep : ∀ (n : Nat) (d : D), okD n d → (toP d).depth ≤ n := by
  have all : ∀ n, (∀ d, okD n d → (toP d).depth ≤ n) → ∀ ds : List D, (∀ d ∈ ds, okD n d) → PyData.depthAll (toPs ds) ≤ n := by
    intro n ih ds
    induction ds with
    | nil => intro _; exact Nat.zero_le _
    | cons d ds ih2 =>
      intro hk
      show max (PyData.depth (toP d)) (PyData.depthAll (toPs ds)) ≤ n
      exact Nat.max_le.mpr ⟨ih d (hk d List.mem_cons_self), ih2 fun x hx => hk x (List.mem_cons_of_mem _ hx)⟩
  intro n
  induction n with
  | zero =>
    intro d hk
    cases d with
    | str b => exact Nat.le_refl _
    | non => exact Nat.le_refl _
    | bl b => exact Nat.le_refl _
    | int b => exact Nat.le_refl _
    | _ => exact hk.elim
  | succ n ih =>
    intro d hk
    cases d with
    | str b => exact Nat.zero_le _
    | non => exact Nat.zero_le _
    | bl b => exact Nat.zero_le _
    | int b => exact Nat.zero_le _
    | tup ds => exact Nat.succ_le_succ (all n ih ds hk)
    | lst ds => exact Nat.succ_le_succ (all n ih ds hk)
    | _ => exact hk.elim
theorem okD.lay : ∀ (n : Nat) (d : D), okD n d → (toP d).canLay0 = true := by
  have all : ∀ n, (∀ d, okD n d → (toP d).canLay0 = true) → ∀ ds : List D, (∀ d ∈ ds, okD n d) → PyData.canLayAll0 (toPs ds) = true := by
    intro n ih ds
    induction ds with
    | nil => intro _; rfl
    | cons d ds ih2 =>
      intro hk
      show (PyData.canLay0 (toP d) && PyData.canLayAll0 (toPs ds)) = true
      rw [ih d (hk d List.mem_cons_self), ih2 fun x hx => hk x (List.mem_cons_of_mem _ hx)]; rfl
  intro n
  induction n with
  | zero =>
    intro d hk
    cases d with
    | str b => exact hk
    | non => rfl
    | bl b => rfl
    | int b => rfl
    | _ => exact hk.elim
  | succ n ih =>
    intro d hk
    cases d with
    | str b => exact hk
    | non => rfl
    | bl b => rfl
    | int b => rfl
    | tup ds => exact all n ih ds hk
    | lst ds => exact all n ih ds hk
    | _ => exact hk.elim
theorem okD.shaped {n : Nat} {d : D} (h : okD n d) (hn : n ≤ 64) : SeqAt.shaped (toP d) = true := by
  unfold SeqAt.shaped
  rw [okD.lay n d h, decide_eq_true (Nat.le_trans (okD.dep n d h) hn)]; rfl
def eqD (a b : D) : Bool := PyData.eqv (toP a) (toP b)
theorem opw_eqD {da db : D} {n : Nat} (hu : X.A.units + 64 < cLine) (h1 : okD n da) (h2 : okD n db) (hn : n ≤ 64) (q : Q (.sh (.bl (eqD da db)))) : OpW X (compareOp .Eq) da db Q :=
  opw_flat (d := .bl (eqD da db)) (v := .bl (eqD da db)) (fun _ _ => rfl) (fun F H va vb e k1 k2 => ⟨_, op_eqD hu, fun P p => ⟨_, _, okD.dp e n _ _ h1 k1, okD.dp e n _ _ h2 k2, h1.shaped hn, h2.shaped hn, p⟩⟩) q
theorem opw_neD {da db : D} {n : Nat} (hu : X.A.units + 64 < cLine) (h1 : okD n da) (h2 : okD n db) (hn : n ≤ 64) (q : Q (.sh (.bl (!eqD da db)))) : OpW X (compareOp .NotEq) da db Q :=
  opw_flat (d := .bl (!eqD da db)) (v := .bl (!eqD da db)) (fun _ _ => rfl) (fun F H va vb e k1 k2 => ⟨_, op_neD hu, fun P p => ⟨_, _, okD.dp e n _ _ h1 k1, okD.dp e n _ _ h2 k2, h1.shaped hn, h2.shaped hn, p⟩⟩) q

/-! ### subscripts -/
def IxW (X : Cx) (da db : D) (Q : Res → Prop) : Prop :=
  ∀ (F0 T F G H : Hp) (r : Env2) (σ : L2.St) (va vb : V), Sta X.K F0 T F G H r σ → Vw X.K F H da va → Vw X.K F H db vb →
    ∃ rr : R2, IxR X rr ∧ rr va vb H (fun v H' => ∃ x F', Ex F F' ∧ Sta X.K F0 T F' G H' r σ ∧ ResOk X.K T F' G H' r σ x v ∧ Q x)
def ixU (X : Cx) : R2 := fun x y H Q => ∃ rr : R2, IxR X rr ∧ rr x y H Q
theorem ixU_ok : IxR X (ixU X) := fun value slice pins s σ H x y v u Q I rx ry ⟨rr, h1, h2⟩ hs => h1 value slice pins s σ H x y v u Q I rx ry h2 hs
theorem we_ix {Q : Res → Env2 → Hp → Prop} (hp : PlainIx b)
    (h : WE X a r G fun x r1 G1 => WE X b r1 G1 fun y r2 G2 => ∃ da db, VwR r2 G2 x da ∧ VwR r2 G2 y db ∧ IxW X da db fun z => Q z r2 G2) : WE X (.Subscript a b pos) r G Q :=
  fun F0 T F H σ S => Run.of (pe_ix ixU_ok peR peR hp) (by
    refine (h F0 T F H σ S).mono fun va H1 ⟨x, r1, G1, F1, e1, S1, k1, h1⟩ => ?_
    obtain ⟨F1', e1', S1', hv⟩ := hold S1 k1
    refine (h1 F0 T F1' H1 σ S1').mono fun vb H2 ⟨y, r2, G2, F2, e2, S2, k2, da, db, q1, q2, q3⟩ => ?_
    obtain ⟨rr, h3, h4⟩ := q3 F0 T F2 G2 H2 r2 σ va vb S2 (hv F2 G2 H2 r2 da e2 S2 q1) (S2.viewR k2 q2)
    refine ⟨fun u w H Q' => rr u w H (fun v H' => ∃ z F', Ex F2 F' ∧ Sta X.K F0 T F' G2 H' r2 σ ∧ ResOk X.K T F' G2 H' r2 σ z v ∧ Q z r2 G2) ∧ ∀ v H', (∃ z F', Ex F2 F' ∧ Sta X.K F0 T F' G2 H' r2 σ ∧ ResOk X.K T F' G2 H' r2 σ z v ∧ Q z r2 G2) → Q' v H', fun value slice pins s σ H x y v u Q' I rx ry ⟨q, m⟩ hs => ?_, h4, fun v H' ⟨z, F', m1, m2, m3, m4⟩ => ⟨z, r2, G2, F', ((e1.trans e1').trans e2).trans m1, m2, m3, m4⟩⟩
    exact wpAny_mono (h3 value slice pins s σ H x y v u _ I rx ry q hs) (fun _ _ ⟨v, H', I', rl, q⟩ => ⟨v, H', I', rl, m v H' q⟩) fun _ _ x => x)
/-- an item by an index of any sign -/
def atD (xs : List D) (i : Int) : Option D := (ixN xs.length i).bind fun j => xs[j]?
theorem atD_get {K : PySem.W.Frag} {F : Hp} {xs : List D} {vs : List V} {i : Int} {d : D} (h : RepL K F xs vs) (e : atD xs i = some d) : ∃ v, atI vs i = some v ∧ Rep K F d v := by
  unfold atD at e
  unfold atI
  rw [h.length]
  cases hj : ixN xs.length i with
  | none => rw [hj] at e; cases e
  | some j =>
    rw [hj] at e
    exact h.get e
theorem ixw_lst {xs : List D} {i : Int} {d : D} (e : atD xs i = some d) (q : Q (.sh d)) : IxW X (.lst xs) (.int i) Q := fun F0 T F G H r σ va vb S h1 h2 => by
  obtain ⟨p, vs, rfl, k1, k2⟩ := h1.lst S.bas.fh
  cases h2.int
  obtain ⟨v, k3, k4⟩ := atD_get k2 e
  exact ⟨_, ix_list, p, vs, i, v, rfl, rfl, .inl (.inl k1), k3, .sh d, F, Ex.refl _, S, k4, q⟩
theorem ixw_tup {xs : List D} {i : Int} {d : D} (e : atD xs i = some d) (q : Q (.sh d)) : IxW X (.tup xs) (.int i) Q := fun F0 T F G H r σ va vb S h1 h2 => by
  obtain ⟨p, vs, rfl, k1, k2⟩ := h1.tup S.bas.fh
  cases h2.int
  obtain ⟨v, k3, k4⟩ := atD_get k2 e
  exact ⟨_, ix_tup, p, vs, i, v, rfl, rfl, k1, k3, .sh d, F, Ex.refl _, S, k4, q⟩
theorem atD_nat {xs : List D} {j : Nat} {d : D} (e : xs[j]? = some d) : atD xs (j : Int) = some d := by
  have hj := (List.getElem?_eq_some_iff.mp e).1
  unfold atD ixN
  rw [if_pos (by omega), if_pos (by omega)]
  simpa using e
theorem atD_neg {xs : List D} {j : Nat} {d : D} (e : xs[xs.length - j]? = some d) (h0 : 0 < j) (hj : j ≤ xs.length) : atD xs (-(j : Int)) = some d := by
  unfold atD ixN
  rw [if_neg (by omega), if_pos (by omega)]
  have e2 : (-(j : Int) + (xs.length : Int)).toNat = xs.length - j := by omega
  show xs[(-(j : Int) + (xs.length : Int)).toNat]? = some d
  rw [e2]
  exact e
/-- one operand -/
theorem we_un {op : UnaryOp} {Q : Res → Env2 → Hp → Prop} (hop : op = .USub) (h : WE X a r G fun x r1 G1 => ∃ i, vw r1 x = some (.int i) ∧ Q (.sh (.int (-i))) r1 G1) : WE X (.UnaryOp op a pos) r G Q := fun F0 T F H σ S => by
  subst hop
  exact Run.of (pe_un un_neg peR) ((h F0 T F H σ S).mono fun va H1 ⟨x, r1, G1, F1, e1, S1, k1, i, h1, h2⟩ => ⟨i, (S1.view k1 h1).int, .sh (.int (-i)), r1, G1, F1, e1, S1, rfl, h2⟩)
end


inductive All2 {A B : Type} (R : A → B → Prop) : List A → List B → Prop
  | nil : All2 R [] []
  | cons {a : A} {b : B} {as : List A} {bs : List B} (h : R a b) (t : All2 R as bs) : All2 R (a :: as) (b :: bs)
section
variable {X : Cx} {e a b c o : Expr} {es : List Expr} {st : Stmt} {sts rest body orelse : List Stmt} {r : Env2} {G : Hp} {pos : Pos} {D0 : EndsD}
/-! ### blocks -/
theorem wb_nil (h : D0.nx r G) : WB X [] r G D0 := fun F0 T F H σ S => RunB.of pss_nil ⟨r, G, F, S, h⟩
theorem wb_cons (h : WS X st r G { D0 with nx := fun r1 G1 => WB X rest r1 G1 D0 }) : WB X (st :: rest) r G D0 := fun F0 T F H σ S =>
  RunB.of (pss_cons psR pbR) ((h F0 T F H σ S).mono (fun σ' H' ⟨r', G', F', S', q⟩ => q F0 T F' H' σ' S') (fun _ _ z => z) (fun _ _ z => z) (fun _ _ z => z))
/-- a block's state cut: what holds behind the first statement -/
theorem wb_cut (W : Env2 → Hp → Prop) (h : WS X st r G { D0 with nx := W }) (k : ∀ r1 G1, W r1 G1 → WB X rest r1 G1 D0) : WB X (st :: rest) r G D0 := fun F0 T F H σ S =>
  RunB.of (pss_cons psR pbR) ((h F0 T F H σ S).mono (fun σ' H' ⟨r', G', F', S', q⟩ => k r' G' q F0 T F' H' σ' S') (fun _ _ z => z) (fun _ _ z => z) (fun _ _ z => z))
theorem ws_pass (h : D0.nx r G) : WS X (.Pass pos) r G D0 := fun F0 T F H σ S => RunS.of ps_pass ⟨r, G, F, S, h⟩
theorem ws_break (h : D0.bk r G) : WS X (.Break pos) r G D0 := fun F0 T F H σ S => RunS.of ps_break ⟨r, G, F, S, h⟩
theorem ws_continue (h : D0.ct r G) : WS X (.Continue pos) r G D0 := fun F0 T F H σ S => RunS.of ps_continue ⟨r, G, F, S, h⟩
theorem ws_if (h : WT X c r G fun d r1 G1 => (d = true → WB X body r1 G1 D0) ∧ (d = false → WB X orelse r1 G1 D0)) : WS X (.If c body orelse pos) r G D0 := fun F0 T F H σ S =>
  RunS.of (ps_if ptR pbR pbR) ((h F0 T F H σ S).mono fun d H1 ⟨r1, G1, F1, e1, S1, q1, q2⟩ => by
    cases d with
    | true => rw [if_pos rfl]; exact q1 rfl F0 T F1 H1 σ S1
    | false => rw [if_neg Bool.false_ne_true]; exact q2 rfl F0 T F1 H1 σ S1)
theorem ws_expr (h : WE X e r G fun _ r1 G1 => D0.nx r1 G1) (hs : swapsWith e none pos.line X.env = pure false := by rfl) : WS X (.Expr e pos) r G D0 := fun F0 T F H σ S =>
  RunS.of (ps_expr peR hs) ((h F0 T F H σ S).mono fun v H1 ⟨x, r1, G1, F1, e1, S1, k1, q⟩ => ⟨r1, G1, F1, S1, q⟩)
/-- what is handed out -/
def rtS (r : Env2) : Res → Option Res
  | .sh d => some (.sh d)
  | .fr d => some (.fr d)
  | .pk i => match r[i]? with
    | some (.own d) => some (.fr d)
    | _ => none
theorem ws_ret (h : WE X e r G fun x r1 G1 => ∃ y, rtS r1 x = some y ∧ D0.rt y G1) : WS X (.Return (some e) pos) r G D0 := fun F0 T F H σ S =>
  RunS.of (ps_ret peR) ((h F0 T F H σ S).mono fun v H1 ⟨x, r1, G1, F1, e1, S1, k1, y, q1, q2⟩ => by
    refine ⟨y, G1, F1, S1.bas, ?_, q2⟩
    cases x with
    | sh d => cases q1; exact k1
    | fr d => cases q1; obtain ⟨p, z1, z2, z3, z4, z5, _⟩ := k1; exact ⟨p, z1, z2, z3, z4, z5⟩
    | pk i =>
      obtain ⟨h1, d, h2⟩ := k1
      have q1' : (match r1[i]? with | some (.own d) => some (Res.fr d) | _ => none) = some y := q1
      rw [h2] at q1'
      cases q1'
      obtain ⟨p, z1, z2, z3, z4, z5⟩ := S1.ownS h2
      rw [h1] at z1; cases z1
      exact ⟨p, rfl, z2, z3, z4, z5⟩)
theorem ws_retN (h : D0.rt (.sh .non) G) : WS X (.Return none pos) r G D0 := fun F0 T F H σ S => RunS.of ps_retN ⟨.sh .non, G, F, S.bas, rfl, h⟩

/-! ### stores -/
def putS (r : Env2) (i : Nat) : Res → Option Env2
  | .sh d => some (r.set i (.sh d))
  | .fr d => some (r.set i (.own d))
  | .pk j => match r[j]? with
    | some (.own d) => some ((r.set j (.sh d)).set i (.sh d))
    | _ => none
theorem Sta.putS {K : PySem.W.Frag} {F0 T F G H : Hp} {r r2 : Env2} {σ : L2.St} {x : Res} {v : V} {i : Nat} (S : Sta K F0 T F G H r σ) (h : ResOk K T F G H r σ x v) (hi : i < r.length) (e : putS r i x = some r2) : ∃ F', Ex F F' ∧ Sta K F0 T F' G H r2 (σ.set i (some v)) := by
  cases x with
  | sh d => cases e; exact ⟨F, Ex.refl _, S.set hi ⟨v, rfl, h⟩ fun d' z => nomatch z⟩
  | fr d =>
    cases e
    obtain ⟨p, z1, z2, z3, z4, z5, z6⟩ := h
    subst z1
    exact ⟨F, Ex.refl _, S.set hi ⟨p, rfl, z2, z3, z4, z5⟩ fun d' _ j e' he _ => z6 j e' he⟩
  | pk j =>
    obtain ⟨h1, d, h2⟩ := h
    have e' : (match r[j]? with | some (.own d) => some ((r.set j (.sh d)).set i (.sh d)) | _ => none) = some r2 := e
    rw [h2] at e'
    cases e'
    obtain ⟨F', k1, k2, v', k3, k4⟩ := S.frzSlot h2
    rw [h1] at k3; cases k3
    exact ⟨F', k1, k2.set (by rw [List.length_set]; exact hi) ⟨v, rfl, k4⟩ fun d' z => nomatch z⟩
theorem ws_set (i : Nat) {x : Str} {pos' : Pos} (hN : X.N.Nodup) (hi : X.N[i]? = some x) (hx : Loc X.env.scope x) (h : WE X e r G fun y r1 G1 => i < r1.length ∧ ∃ r2, putS r1 i y = some r2 ∧ D0.nx r2 G1)
    (hs : swapsWith e (some (.Name x pos')) pos.line X.env = pure false := by rfl) (hf : X.fn x = true ∨ X.env.scope.names.lookup x = some .local := by first | exact .inl rfl | exact .inr rfl | assumption) : WS X (.Assign [.Name x pos'] e pos) r G D0 := fun F0 T F H σ S =>
  RunS.of (ps_set hN hi hx peR hs hf) ((h F0 T F H σ S).mono fun v H1 ⟨y, r1, G1, F1, e1, S1, k1, hi', r2, q1, q2⟩ => by
    obtain ⟨F2, e2, S2⟩ := S1.putS k1 hi' q1
    exact ⟨r2, G1, F2, S2, q2⟩)
/-- x += e, on ints -/
theorem ws_augI (i : Nat) {x : Str} {n : Int} {pos' : Pos} (hN : X.N.Nodup) (hi : X.N[i]? = some x) (hx : Loc X.env.scope x) (hr : r[i]? = some (.sh (.int n))) (h : WE X e r G fun y r1 G1 => i < r1.length ∧ ∃ m, vw r1 y = some (.int m) ∧ D0.nx (r1.set i (.sh (.int (n + m)))) G1)
    (hf : X.fn x = true ∨ X.env.scope.names.lookup x = some .local := by first | exact .inl rfl | exact .inr rfl | assumption) : WS X (.AugAssign (.Name x pos') .Add e pos) r G D0 := fun F0 T F H σ S =>
  RunS.of (ps_aug hN hi hx peR ip_add hf) (by
    obtain ⟨v, h1, h2⟩ := S.slot hr
    cases (show v = .int n from h2)
    refine ⟨.int n, h1, (h F0 T F H σ S).mono fun v H1 ⟨y, r1, G1, F1, e1, S1, k1, hi', m, q1, q2⟩ => ?_⟩
    exact ⟨n, m, rfl, (S1.view k1 q1).int, r1.set i (.sh (.int (n + m))), G1, F1, S1.set hi' ⟨_, rfl, rfl⟩ (fun d' z => nomatch z), q2⟩)
/-- targets: names in a row, from frozen data -/
theorem pgs_run : ∀ {tg : List Expr} {ixs : List Nat}, All2 (fun t i => PG X t (gName i)) tg ixs → (∀ t ∈ tg, ∀ ts, (assignEach (t :: ts) X.env).map (·.2) = assign t X.env :: (assignEach ts X.env).map (·.2)) →
    PGs X tg (fun vs σ H Q => vs.length = ixs.length ∧ Q ((ixs.zip vs).foldl (fun s p => s.set p.1 (some p.2)) σ) H)
  | [], [], .nil, _ => ⟨fun pins s σ H vs us Q I rv h => (pgs_nil (X := X)).run pins s σ H vs us Q I rv ⟨List.length_eq_zero_iff.mp h.1, by
      have e : vs = [] := List.length_eq_zero_iff.mp h.1
      subst e
      exact h.2⟩⟩
  | t :: tg, i :: ixs, .cons hp hr, hs => ⟨fun pins s σ H vs us Q I rv h => by
      obtain ⟨hl, q⟩ := h
      cases vs with
      | nil => simp at hl
      | cons v vs =>
        refine (pgs_cons hp (pgs_run hr fun t' ht => hs t' (List.mem_cons_of_mem _ ht)) (hs t List.mem_cons_self tg)).run pins s σ H (v :: vs) us Q I rv ⟨v, vs, rfl, ?_⟩
        exact ⟨by simpa using hl, q⟩⟩
def setAll (r : Env2) : List Nat → List D → Env2
  | i :: is, d :: ds => setAll (r.set i (.sh d)) is ds
  | _, _ => r
theorem setAll_len : ∀ (is : List Nat) (ds : List D) (r : Env2), (setAll r is ds).length = r.length
  | [], _, _ => by unfold setAll; rfl
  | _ :: _, [], _ => by unfold setAll; rfl
  | i :: is, d :: ds, r => by unfold setAll; rw [setAll_len is ds, List.length_set]
theorem Sta.setAll {K : PySem.W.Frag} {F0 T F G H : Hp} : ∀ (is : List Nat) (ds : List D) (vs : List V) {r : Env2} {σ : L2.St}, Sta K F0 T F G H r σ → RepL K F ds vs → is.length = ds.length → (∀ i ∈ is, i < r.length) →
    Sta K F0 T F G H (setAll r is ds) ((is.zip vs).foldl (fun s p => s.set p.1 (some p.2)) σ)
  | [], [], vs, r, σ, S, h, _, _ => by
    unfold RB.setAll
    exact S
  | i :: is, d :: ds, vs, r, σ, S, h, hl, hi => by
    obtain ⟨v, vr, rfl, h1, h2⟩ := h
    unfold RB.setAll
    exact Sta.setAll is ds vr (S.set (hi i List.mem_cons_self) ⟨v, rfl, h1⟩ fun d' z => nomatch z) h2 (by simpa using hl) fun j hj => by rw [List.length_set]; exact hi j (List.mem_cons_of_mem _ hj)
  | [], d :: ds, vs, r, σ, S, h, hl, _ => by simp at hl
  | i :: is, [], vs, r, σ, S, h, hl, _ => by simp at hl
/-- a, b, .. = e : e a tuple -/
theorem ws_unpack {tg : List Expr} {k : Nat} {tpos : Pos} (is : List Nat) (hc : X.calm = true) (hp : All2 (fun t i => PG X t (gName i)) tg is) (hst : ∀ t ∈ tg, ∀ ts, (assignEach (t :: ts) X.env).map (·.2) = assign t X.env :: (assignEach ts X.env).map (·.2))
    (h : WE X e r G fun y r1 G1 => ∃ ds r2, fz r1 y = some (.tup ds, r2) ∧ ds.length = is.length ∧ (∀ i ∈ is, i < r2.length) ∧ D0.nx (setAll r2 is ds) G1)
    (hn : (assignEach tg X.env).length = is.length := by rfl) (hf : (assignEach tg X.env).findIdx? (·.1) = none := by rfl)
    (hs : swapsWithSole [.Tuple tg k tpos] e pos.line X.env = pure false := by rfl) (hw : swappedStores [.Tuple tg k tpos] e X.env = pure none := by rfl)
    (h1 : (assignEach [.Tuple tg k tpos] X.env).map (·.2) = [assign (.Tuple tg k tpos) X.env] := by rfl) : WS X (.Assign [.Tuple tg k tpos] e pos) r G D0 := fun F0 T F H σ S =>
  RunS.of (ps_asg peR (pg_tup hc (pgs_run hp hst) hn hf) hs hw h1) ((h F0 T F H σ S).mono fun v H1 ⟨y, r1, G1, F1, e1, S1, k1, ds, r2, q1, q2, q3, q4⟩ => by
    obtain ⟨F2, e2, S2, rp⟩ := S1.fz k1 q1
    obtain ⟨a, vs, rfl, z1, z2⟩ := rp
    refine ⟨a, vs, rfl, S2.bas.fh.sqT z1, by rw [z2.length]; exact q2, by rw [z2.length]; exact q2, ?_⟩
    exact ⟨_, G1, F2, S2.setAll is ds vs z2 q2.symm q3, q4⟩)
/-! ### results that are held while more is evaluated -/
/-- a result that is no own slot -/
def nz (r : Env2) : Res → Option (Res × Env2)
  | .sh d => some (.sh d, r)
  | .fr d => some (.fr d, r)
  | .pk i => match r[i]? with
    | some (.own d) => some (.sh d, r.set i (.sh d))
    | _ => none
def slO : Res → Sl
  | .sh d => .sh d
  | .fr d => .own d
  | .pk _ => .no
theorem Sta.nz {K : PySem.W.Frag} {F0 T F G H : Hp} {r r2 : Env2} {σ : L2.St} {x y : Res} {v : V} (S : Sta K F0 T F G H r σ) (h : ResOk K T F G H r σ x v) (e : nz r x = some (y, r2)) : ∃ F', Ex F F' ∧ Sta K F0 T F' G H r2 σ ∧ ResOk K T F' G H r2 σ y v ∧ ∀ i, y ≠ .pk i := by
  cases x with
  | sh d => cases e; exact ⟨F, Ex.refl _, S, h, fun i z => nomatch z⟩
  | fr d => cases e; exact ⟨F, Ex.refl _, S, h, fun i z => nomatch z⟩
  | pk i =>
    obtain ⟨h1, d, h2⟩ := h
    have e' : (match r[i]? with | some (.own d) => some (Res.sh d, r.set i (.sh d)) | _ => none) = some (y, r2) := e
    rw [h2] at e'
    cases e'
    obtain ⟨F', k1, k2, v', k3, k4⟩ := S.frzSlot h2
    rw [h1] at k3; cases k3
    exact ⟨F', k1, k2, k4, fun i z => nomatch z⟩
theorem holdT {K : PySem.W.Frag} {F0 T F G H : Hp} {r : Env2} {σ : L2.St} {z : Res} {v : V} (S : Sta K F0 T F G H r σ) (h : ResOk K T F G H r σ z v) (hz : ∀ i, z ≠ .pk i) :
    ∃ T', Sta K F0 T' F G H r σ ∧ ∀ (F2 G2 H2 : Hp) (r2 : Env2) (σ2 : L2.St), Ex F F2 → Sta K F0 T' F2 G2 H2 r2 σ2 → Sta K F0 T F2 G2 H2 r2 σ2 ∧ ResOk K T F2 G2 H2 r2 σ2 z v ∧
      ∀ (z2 : Res) (v2 : V), ResOk K T' F2 G2 H2 r2 σ2 z2 v2 → ResOk K T F2 G2 H2 r2 σ2 z2 v2 ∧ ∀ d d2, z = .fr d → z2 = .fr d2 → v ≠ v2 := by
  cases z with
  | pk i => exact absurd rfl (hz i)
  | sh d => exact ⟨T, S, fun F2 G2 H2 r2 σ2 ex S2 => ⟨S2, Rep.mono ex _ _ h, fun z2 v2 k => ⟨k, fun d d2 q => nomatch q⟩⟩⟩
  | fr d =>
    obtain ⟨p, rfl, z2, z3, z4, z5, z6⟩ := h
    obtain ⟨o, ho⟩ := z2.there
    refine ⟨upd T p o, ?_, ?_⟩
    · refine ⟨⟨S.bas.ff, fun q u hq => ?_, S.bas.fh, S.bas.gh, S.bas.fg, fun q u hq => ?_, fun q u hq => ?_⟩, S.len, fun i s hs => ?_, S.ap⟩
      · have hqp : q ≠ p := fun zz => by subst zz; rw [z3] at hq; cases hq
        rw [upd_ne hqp]
        exact S.bas.ft q u hq
      · have hqp : q ≠ p := fun zz => by subst zz; rw [z4] at hq; cases hq
        rw [upd_ne hqp]
        exact S.bas.gt q u hq
      · by_cases hqp : q = p
        · subst hqp; rw [upd_same] at hq; cases hq; exact ho
        · rw [upd_ne hqp] at hq; exact S.bas.tk q u hq
      · have hh := S.sl i s hs
        cases s with
        | no => trivial
        | sh d => exact hh
        | own d =>
          obtain ⟨p', y1, y2, y3, y4, y5⟩ := hh
          have hqp : p' ≠ p := fun zz => by subst zz; exact z6 i d hs y1
          exact ⟨p', y1, y2, y3, y4, by rw [upd_ne hqp]; exact y5⟩
    · intro F2 G2 H2 r2 σ2 ex S2
      have tsub : ∀ q u, T q = some u → upd T p o q = some u := fun q u hq => by
        have hqp : q ≠ p := fun zz => by subst zz; rw [z5] at hq; cases hq
        rw [upd_ne hqp]; exact hq
      have tdown : ∀ q, upd T p o q = none → T q = none := fun q hq => by
        cases hf : T q with
        | none => rfl
        | some u => rw [tsub q u hf] at hq; cases hq
      have tp : ∀ q, upd T p o q = none → q ≠ p := fun q hq zz => by subst zz; rw [upd_same] at hq; cases hq
      have fp : F2 p = none := by
        cases hf : F2 p with
        | none => rfl
        | some u =>
          rcases S2.bas.ft p u hf with zz | zz
          · have := S.bas.ff p u zz
            rw [z3] at this; cases this
          · exact absurd rfl (tp p zz)
      have gp : G2 p = none := by
        cases hf : G2 p with
        | none => rfl
        | some u => exact absurd rfl (tp p (S2.bas.gt p u hf))
      refine ⟨⟨⟨S2.bas.ff, fun q u hq => (S2.bas.ft q u hq).imp id (tdown q), S2.bas.fh, S2.bas.gh, S2.bas.fg, fun q u hq => tdown q (S2.bas.gt q u hq), fun q u hq => S2.bas.tk q u (tsub q u hq)⟩, S2.len, fun i s hs => ?_, S2.ap⟩, ⟨p, rfl, z2.mono ex fun u hu => by rw [ho] at hu; cases hu; exact S2.bas.tk p o upd_same, fp, gp, z5, fun k d' hk zz => ?_⟩, fun z2' v2 k => ?_⟩
      · have hh := S2.sl i s hs
        cases s with
        | no => trivial
        | sh d => exact hh
        | own d =>
          obtain ⟨p', k1, k2, k3, k4, k5⟩ := hh
          exact ⟨p', k1, k2, k3, k4, tdown p' k5⟩
      · obtain ⟨p', k1, _, _, _, k5⟩ := S2.ownS hk
        rw [zz] at k1; cases k1
        exact tp p k5 rfl
      · cases z2' with
        | sh d => exact ⟨k, fun d d2 _ q => nomatch q⟩
        | pk i => exact ⟨k, fun d d2 _ q => nomatch q⟩
        | fr d' =>
          obtain ⟨p2, rfl, k2, k3, k4, k5, k6⟩ := k
          exact ⟨⟨p2, rfl, k2, k3, k4, tdown p2 k5, k6⟩, fun _ _ _ _ zz => by cases zz; exact tp p k5 rfl⟩
/-- a held result goes to a slot -/
theorem Sta.setR {K : PySem.W.Frag} {F0 T F G H : Hp} {r : Env2} {σ : L2.St} {z : Res} {v : V} {i : Nat} (S : Sta K F0 T F G H r σ) (h : ResOk K T F G H r σ z v) (hi : i < r.length) (hz : ∀ i, z ≠ .pk i) : Sta K F0 T F G H (r.set i (slO z)) (σ.set i (some v)) := by
  cases z with
  | pk j => exact absurd rfl (hz j)
  | sh d => exact S.set hi ⟨v, rfl, h⟩ fun d' z => nomatch z
  | fr d =>
    obtain ⟨p, rfl, z2, z3, z4, z5, z6⟩ := h
    exact S.set hi ⟨p, rfl, z2, z3, z4, z5⟩ fun d' _ j e' he _ => z6 j e' he
/-- .. and another held one stays good -/
theorem ResOk.setR {K : PySem.W.Frag} {T F G H : Hp} {r : Env2} {σ : L2.St} {z z2 : Res} {v v2 : V} {i : Nat} (h2 : ResOk K T F G H r σ z2 v2) (hi : i < r.length) (hl : r.length = σ.length) (hz : ∀ i, z ≠ .pk i) (hz2 : ∀ i, z2 ≠ .pk i) (hd : ∀ d d2, z = .fr d → z2 = .fr d2 → v ≠ v2) :
    ResOk K T F G H (r.set i (slO z)) (σ.set i (some v)) z2 v2 := by
  cases z2 with
  | pk j => exact absurd rfl (hz2 j)
  | sh d => exact h2
  | fr d =>
    obtain ⟨p, rfl, k2, k3, k4, k5, k6⟩ := h2
    refine ⟨p, rfl, k2, k3, k4, k5, fun k e' he zz => ?_⟩
    by_cases hki : i = k
    · subst hki
      rw [List.getElem?_set_self hi] at he
      rw [List.getElem?_set_self (by rw [← hl]; exact hi)] at zz
      cases z with
      | pk j => exact hz j rfl
      | sh d' => cases he
      | fr d' => cases zz; exact hd d' d rfl rfl rfl
    · rw [List.getElem?_set_ne hki] at he zz
      exact k6 k e' he zz
/-- a, b = e1, e2 with local names -/
theorem ws_par (i j : Nat) {x y : Str} {px py pt : Pos} {kt k2 pt2} (hc : X.calm = true) (hN : X.N.Nodup) (hi : X.N[i]? = some x) (hj : X.N[j]? = some y) (hij : i ≠ j) (hx : X.env.scope.names.lookup x = some .local) (hy : X.env.scope.names.lookup y = some .local)
    (hw : swappedStores [.Tuple [.Name x px, .Name y py] kt pt] (.Tuple [a, b] k2 pt2) X.env = pure (some [x, y]))
    (h : WE X a r G fun z r1 G1 => ∃ z' r2, nz r1 z = some (z', r2) ∧ WE X b r2 G1 fun w r3 G3 => ∃ w' r4, nz r3 w = some (w', r4) ∧ i < r4.length ∧ j < r4.length ∧ D0.nx ((r4.set i (slO z')).set j (slO w')) G3)
    (hs : swapsWithSole [.Tuple [.Name x px, .Name y py] kt pt] (.Tuple [a, b] k2 pt2) pos.line X.env = pure false := by rfl)
    (h1 : starEach [a, b] X.env = (false, eval a X.env) :: starEach [b] X.env := by rfl) (h2 : starEach [b] X.env = (false, eval b X.env) :: starEach [] X.env := by rfl) :
    WS X (.Assign [.Tuple [.Name x px, .Name y py] kt pt] (.Tuple [a, b] k2 pt2) pos) r G D0 := fun F0 T F H σ S =>
  RunS.of (ps_par hc hN hi hj hij hx hy (pa_cons peR (pa_cons peR pa_nil h2) h1) hw hs) ((h F0 T F H σ S).mono fun v H1 ⟨z, r1, G1, F1, e1, S1, k1, z', r2, q1, q2⟩ => by
    obtain ⟨F2, e2, S2, k2, hz⟩ := S1.nz k1 q1
    obtain ⟨T', S2', hold⟩ := holdT S2 k2 hz
    refine (q2 F0 T' F2 H1 σ S2').mono fun w H3 ⟨u, r3, G3, F3, e3, S3, k3, w', r4, q3, hi', hj', q4⟩ => ?_
    obtain ⟨F4, e4, S4, k4, hz4⟩ := S3.nz k3 q3
    obtain ⟨S5, m1, m2⟩ := hold F4 G3 H3 r4 σ (e3.trans e4) S4
    obtain ⟨m3, m4⟩ := m2 w' w k4
    refine ⟨v, w, rfl, _, G3, F4, ?_, q4⟩
    exact (S5.setR m1 hi' hz).setR (m3.setR hi' S5.len hz hz4 m4) (by rw [List.length_set]; exact hj') hz4)
theorem ws_par3 (i j l : Nat) {x y z : Str} {c : Expr} {px py pz pt : Pos} {kt k2 pt2} (hc : X.calm = true) (hN : X.N.Nodup) (hi : X.N[i]? = some x) (hj : X.N[j]? = some y) (hl : X.N[l]? = some z) (hij : i ≠ j) (hil : i ≠ l) (hjl : j ≠ l)
    (hx : X.env.scope.names.lookup x = some .local) (hy : X.env.scope.names.lookup y = some .local) (hz0 : X.env.scope.names.lookup z = some .local)
    (hw : swappedStores [.Tuple [.Name x px, .Name y py, .Name z pz] kt pt] (.Tuple [a, b, c] k2 pt2) X.env = pure (some [x, y, z]))
    (h : WE X a r G fun z1 r1 G1 => ∃ z1' r2, nz r1 z1 = some (z1', r2) ∧ WE X b r2 G1 fun w r3 G3 => ∃ w' r4, nz r3 w = some (w', r4) ∧ WE X c r4 G3 fun u r5 G5 => ∃ u' r6, nz r5 u = some (u', r6) ∧ i < r6.length ∧ j < r6.length ∧ l < r6.length ∧ D0.nx (((r6.set i (slO z1')).set j (slO w')).set l (slO u')) G5)
    (hs : swapsWithSole [.Tuple [.Name x px, .Name y py, .Name z pz] kt pt] (.Tuple [a, b, c] k2 pt2) pos.line X.env = pure false := by rfl)
    (h1 : starEach [a, b, c] X.env = (false, eval a X.env) :: starEach [b, c] X.env := by rfl) (h2 : starEach [b, c] X.env = (false, eval b X.env) :: starEach [c] X.env := by rfl) (h3 : starEach [c] X.env = (false, eval c X.env) :: starEach [] X.env := by rfl) :
    WS X (.Assign [.Tuple [.Name x px, .Name y py, .Name z pz] kt pt] (.Tuple [a, b, c] k2 pt2) pos) r G D0 := fun F0 T F H σ S =>
  RunS.of (ps_par3 hc hN hi hj hl hij hil hjl hx hy hz0 (pa_cons peR (pa_cons peR (pa_cons peR pa_nil h3) h2) h1) hw hs) ((h F0 T F H σ S).mono fun v H1 ⟨z, r1, G1, F1, e1, S1, k1, z', r2, q1, q2⟩ => by
    obtain ⟨F2, e2, S2, k2, hz⟩ := S1.nz k1 q1
    obtain ⟨T', S2', hold⟩ := holdT S2 k2 hz
    refine (q2 F0 T' F2 H1 σ S2').mono fun w H3 ⟨u, r3, G3, F3, e3, S3, k3, w', r4, q3, q4⟩ => ?_
    obtain ⟨F4, e4, S4, k4, hz4⟩ := S3.nz k3 q3
    obtain ⟨T'', S4', hold'⟩ := holdT S4 k4 hz4
    refine (q4 F0 T'' F4 H3 σ S4').mono fun v5 H5 ⟨u5, r5, G5, F5, e5, S5, k5, u', r6, q5, hi', hj', hl', q6⟩ => ?_
    obtain ⟨F6, e6, S6, k6, hz6⟩ := S5.nz k5 q5
    obtain ⟨S7, m1, m2⟩ := hold' F6 G5 H5 r6 σ (e5.trans e6) S6
    obtain ⟨m3, m4⟩ := m2 u' v5 k6
    obtain ⟨S8, n1, n2⟩ := hold F6 G5 H5 r6 σ ((e3.trans e4).trans (e5.trans e6)) S7
    obtain ⟨n3, n4⟩ := n2 w' w m1
    obtain ⟨n5, n6⟩ := n2 u' v5 m3
    refine ⟨v, w, v5, rfl, _, G5, F6, ?_, q6⟩
    have A := S8.setR n1 hi' hz
    have B := n3.setR hi' S8.len hz hz4 n4
    have C := n5.setR hi' S8.len hz hz6 n6
    have hj2 : j < (r6.set i (slO z')).length := by rw [List.length_set]; exact hj'
    have hl2 : l < ((r6.set i (slO z')).set j (slO w')).length := by rw [List.length_set, List.length_set]; exact hl'
    exact (A.setR B hj2 hz4).setR (C.setR hj2 A.len hz4 hz6 m4) hl2 hz6)
end


/-! ### sorted ints -/
def isort (ns : List Int) : List Int := ns.mergeSort fun a b => decide (a ≤ b)
theorem isort_perm (ns : List Int) : (isort ns).Perm ns := List.mergeSort_perm ns _
theorem isort_sorted (ns : List Int) : (isort ns).Pairwise (· ≤ ·) := by
  have h := List.pairwise_mergeSort (le := fun a b : Int => decide (a ≤ b)) (fun a b c h1 h2 => by simp at *; omega) (fun a b => by simp; omega) ns
  exact h.imp fun h => by simpa using h
theorem sorted_unique : ∀ {xs ys : List Int}, xs.Perm ys → xs.Pairwise (· ≤ ·) → ys.Pairwise (· ≤ ·) → xs = ys := fun {xs ys} p h1 h2 =>
  List.Perm.eq_of_pairwise (le := (· ≤ ·)) (fun a b _ _ h h' => Int.le_antisymm h h') h1 h2 p
theorem isort_of {xs ys : List Int} (p : xs.Perm ys) (h : xs.Pairwise (· ≤ ·)) : xs = isort ys := sorted_unique (p.trans (isort_perm ys).symm) h (isort_sorted ys)
theorem isort_length (ns : List Int) : (isort ns).length = ns.length := (isort_perm ns).length_eq

section
variable {X : Cx} {e a b c o : Expr} {es : List Expr} {st : Stmt} {sts rest body orelse : List Stmt} {r : Env2} {G : Hp} {pos p0 : Pos} {D0 : EndsD} {Q : Res → Prop}
/-! ### built-ins called with one argument, two arguments -/
def CallW1 (X : Cx) (f : Value) (d : D) (Q : Res → Prop) : Prop :=
  ∀ (F0 T F G H : Hp) (r : Env2) (σ : L2.St) (v : V), Sta X.K F0 T F G H r σ → Vw X.K F H d v →
    ∃ rr : List V → Hp → VK → Prop, CallR X f rr ∧ rr [v] H (fun v' H' => ∃ x F', Ex F F' ∧ Sta X.K F0 T F' G H' r σ ∧ ResOk X.K T F' G H' r σ x v' ∧ Q x)
def CallW2 (X : Cx) (f : Value) (da db : D) (Q : Res → Prop) : Prop :=
  ∀ (F0 T F G H : Hp) (r : Env2) (σ : L2.St) (va vb : V), Sta X.K F0 T F G H r σ → Vw X.K F H da va → Vw X.K F H db vb →
    ∃ rr : List V → Hp → VK → Prop, CallR X f rr ∧ rr [va, vb] H (fun v' H' => ∃ x F', Ex F F' ∧ Sta X.K F0 T F' G H' r σ ∧ ResOk X.K T F' G H' r σ x v' ∧ Q x)
def callU (X : Cx) (f : Value) : List V → Hp → VK → Prop := fun vs H Q => ∃ rr : List V → Hp → VK → Prop, CallR X f rr ∧ rr vs H Q
theorem callU_ok (f : Value) : CallR X f (callU X f) := fun pins s σ H xs us Q I rv ⟨rr, h1, h2⟩ => h1 pins s σ H xs us Q I rv h2
theorem CallR.post {f : Value} {rr : List V → Hp → VK → Prop} (h : CallR X f rr) (P : VK) : CallR X f (fun vs H Q' => rr vs H P ∧ ∀ v H', P v H' → Q' v H') := fun pins s σ H xs us Q' I rv ⟨q, m⟩ =>
  wpAny_mono (h pins s σ H xs us P I rv q) (fun _ _ ⟨v, H', I', rl, q⟩ => ⟨v, H', I', rl, m v H' q⟩) fun _ _ x => x
theorem one1 {f : Value} {Q : Res → Env2 → Hp → Prop} {F0 T F H : Hp} {σ : L2.St} (S : Sta X.K F0 T F G H r σ) (h : WE X e r G fun x r1 G1 => ∃ d, VwR r1 G1 x d ∧ CallW1 X f d fun z => Q z r1 G1) :
    tCB (callU X f) (tCons (Run X e) tNil) σ H (PostE X.K F0 T F σ Q) := by
  refine (h F0 T F H σ S).mono fun v H1 ⟨x, r1, G1, F1, e1, S1, k1, d, q1, q2⟩ => ?_
  obtain ⟨rr, h3, h4⟩ := q2 F0 T F1 G1 H1 r1 σ v S1 (S1.viewR k1 q1)
  exact ⟨_, CallR.post h3 _, h4, fun v H' ⟨z, F', m1, m2, m3, m4⟩ => ⟨z, r1, G1, F', e1.trans m1, m2, m3, m4⟩⟩
theorem we_b1 {x : Str} {id : String} {Q : Res → Env2 → Hp → Prop} (hg : Gl X x) (hm : X.mg x = none) (hv : bootBuiltins x = some (.builtin id)) (h : WE X e r G fun x r1 G1 => ∃ d, VwR r1 G1 x d ∧ CallW1 X (.builtin id) d fun z => Q z r1 G1)
    (hn : x ≠ "__name__" := by decide) (hdb : (x == ("__debug__" : Str)) = false := by decide) (he : starEach [e] X.env = (false, eval e X.env) :: starEach [] X.env := by rfl) (hpl : (backTo pos (starEach [] X.env)).any (·.1) = false := by rfl) :
    WE X (.Call (.Name x p0) [e] [] pos) r G Q := fun F0 T F H σ S => Run.of (pe_callB (callU_ok _) hg hm hv (pa_cons peR pa_nil he) hn hdb he hpl) (one1 S h)
theorem we_t1 {x : Str} {id : String} {Q : Res → Env2 → Hp → Prop} (hg : Gl X x) (hm : X.mg x = none) (hv : bootBuiltins x = some (.type id)) (h : WE X e r G fun x r1 G1 => ∃ d, VwR r1 G1 x d ∧ CallW1 X (.type id) d fun z => Q z r1 G1)
    (hn : x ≠ "__name__" := by decide) (hdb : (x == ("__debug__" : Str)) = false := by decide) (he : starEach [e] X.env = (false, eval e X.env) :: starEach [] X.env := by rfl) (hpl : (backTo pos (starEach [] X.env)).any (·.1) = false := by rfl) :
    WE X (.Call (.Name x p0) [e] [] pos) r G Q := fun F0 T F H σ S => Run.of (pe_callTy (callU_ok _) hg hm hv (pa_cons peR pa_nil he) hn hdb he hpl) (one1 S h)
theorem two2 {f : Value} {Q : Res → Env2 → Hp → Prop} {F0 T F H : Hp} {σ : L2.St} (S : Sta X.K F0 T F G H r σ) (h : WE X a r G fun x r1 G1 => WE X b r1 G1 fun y r2 G2 => ∃ da db, VwR r2 G2 x da ∧ VwR r2 G2 y db ∧ CallW2 X f da db fun z => Q z r2 G2) :
    tCB (callU X f) (tCons (Run X a) (tCons (Run X b) tNil)) σ H (PostE X.K F0 T F σ Q) := by
  refine (h F0 T F H σ S).mono fun va H1 ⟨x, r1, G1, F1, e1, S1, k1, h1⟩ => ?_
  obtain ⟨F1', e1', S1', hv⟩ := hold S1 k1
  refine (h1 F0 T F1' H1 σ S1').mono fun vb H2 ⟨y, r2, G2, F2, e2, S2, k2, da, db, q1, q2, q3⟩ => ?_
  obtain ⟨rr, h3, h4⟩ := q3 F0 T F2 G2 H2 r2 σ va vb S2 (hv F2 G2 H2 r2 da e2 S2 q1) (S2.viewR k2 q2)
  exact ⟨_, CallR.post h3 _, h4, fun v H' ⟨z, F', m1, m2, m3, m4⟩ => ⟨z, r2, G2, F', ((e1.trans e1').trans e2).trans m1, m2, m3, m4⟩⟩
theorem we_b2 {x : Str} {id : String} {Q : Res → Env2 → Hp → Prop} (hg : Gl X x) (hm : X.mg x = none) (hv : bootBuiltins x = some (.builtin id)) (h : WE X a r G fun x r1 G1 => WE X b r1 G1 fun y r2 G2 => ∃ da db, VwR r2 G2 x da ∧ VwR r2 G2 y db ∧ CallW2 X (.builtin id) da db fun z => Q z r2 G2)
    (hn : x ≠ "__name__" := by decide) (hdb : (x == ("__debug__" : Str)) = false := by decide) (he : starEach [a, b] X.env = (false, eval a X.env) :: starEach [b] X.env := by rfl) (he2 : starEach [b] X.env = (false, eval b X.env) :: starEach [] X.env := by rfl) (hpl : (backTo pos (starEach [b] X.env)).any (·.1) = false := by rfl) :
    WE X (.Call (.Name x p0) [a, b] [] pos) r G Q := fun F0 T F H σ S => Run.of (pe_callB (callU_ok _) hg hm hv (pa_cons peR (pa_cons peR pa_nil he2) he) hn hdb he hpl) (two2 S h)
theorem c1_flat {f : Value} {d d' : D} {v' : V} (hd : ∀ K F, Rep K F d' v') (h : ∀ F H v, Ex F H → Vw X.K F H d v → ∃ rr, CallR X f rr ∧ ∀ P : VK, P v' H → rr [v] H P) (q : Q (.sh d')) : CallW1 X f d Q :=
  fun F0 T F G H r σ v S h1 => by
    obtain ⟨rr, k1, k2⟩ := h F H v S.bas.fh h1
    exact ⟨rr, k1, k2 _ ⟨.sh d', F, Ex.refl _, S, hd _ _, q⟩⟩
theorem c2_flat {f : Value} {da db d' : D} {v' : V} (hd : ∀ K F, Rep K F d' v') (h : ∀ F H va vb, Ex F H → Vw X.K F H da va → Vw X.K F H db vb → ∃ rr, CallR X f rr ∧ ∀ P : VK, P v' H → rr [va, vb] H P) (q : Q (.sh d')) : CallW2 X f da db Q :=
  fun F0 T F G H r σ va vb S h1 h2 => by
    obtain ⟨rr, k1, k2⟩ := h F H va vb S.bas.fh h1 h2
    exact ⟨rr, k1, k2 _ ⟨.sh d', F, Ex.refl _, S, hd _ _, q⟩⟩
theorem c_len {ds : List D} (q : Q (.sh (.int (ds.length : Nat)))) : CallW1 X (.builtin "len") (.lst ds) Q :=
  c1_flat (d' := .int (ds.length : Nat)) (v' := .int (ds.length : Nat)) (fun _ _ => rfl) (fun F H v ex h => by
    obtain ⟨p, vs, rfl, k1, k2⟩ := h.lst ex
    exact ⟨_, call_len_seq, fun P hp => ⟨p, vs, rfl, .inl (.inl (.inl k1)), by rw [k2.length]; exact hp⟩⟩) q
theorem c_lenT {ds : List D} (q : Q (.sh (.int (ds.length : Nat)))) : CallW1 X (.builtin "len") (.tup ds) Q :=
  c1_flat (d' := .int (ds.length : Nat)) (v' := .int (ds.length : Nat)) (fun _ _ => rfl) (fun F H v ex h => by
    obtain ⟨p, vs, rfl, k1, k2⟩ := h.tup ex
    exact ⟨_, call_len_seq, fun P hp => ⟨p, vs, rfl, .inr k1, by rw [k2.length]; exact hp⟩⟩) q
theorem c_abs {i : Int} (q : Q (.sh (.int (if i < 0 then -i else i)))) : CallW1 X (.builtin "abs") (.int i) Q :=
  c1_flat (d' := .int (if i < 0 then -i else i)) (v' := .int (if i < 0 then -i else i)) (fun _ _ => rfl) (fun F H v ex h => ⟨_, call_abs, fun P hp => ⟨i, by rw [h.int], hp⟩⟩) q
theorem c_int {i : Int} (q : Q (.sh (.int i))) : CallW1 X (.type "int") (.int i) Q :=
  c1_flat (d' := .int i) (v' := .int i) (fun _ _ => rfl) (fun F H v ex h => ⟨_, call_int1, fun P hp => .inl ⟨i, by rw [h.int], hp⟩⟩) q
theorem c_intB {i : Bool} (q : Q (.sh (.int (if i then 1 else 0)))) : CallW1 X (.type "int") (.bl i) Q :=
  c1_flat (d' := .int (if i then 1 else 0)) (v' := .int (if i then 1 else 0)) (fun _ _ => rfl) (fun F H v ex h => ⟨_, call_int1, fun P hp => .inr ⟨i, by rw [h.bl], hp⟩⟩) q
theorem c_max2 {i j : Int} (hc : X.calm = true) (q : Q (.sh (.int (if j > i then j else i)))) : CallW2 X (.builtin "max") (.int i) (.int j) Q :=
  c2_flat (d' := .int (if j > i then j else i)) (v' := .int (if j > i then j else i)) (fun _ _ => rfl) (fun F H va vb ex h1 h2 => ⟨_, call_max2 hc, fun P hp => ⟨i, j, by rw [h1.int, h2.int], hp⟩⟩) q
theorem c_min2 {i j : Int} (hc : X.calm = true) (q : Q (.sh (.int (if j < i then j else i)))) : CallW2 X (.builtin "min") (.int i) (.int j) Q :=
  c2_flat (d' := .int (if j < i then j else i)) (v' := .int (if j < i then j else i)) (fun _ _ => rfl) (fun F H va vb ex h1 h2 => ⟨_, call_min2 hc, fun P hp => ⟨i, j, by rw [h1.int, h2.int], hp⟩⟩) q
theorem c_sum {ns : List Int} (hc : X.calm = true) (q : Q (.sh (.int ns.sum))) : CallW1 X (.builtin "sum") (.lst (ns.map D.int)) Q :=
  c1_flat (d' := .int ns.sum) (v' := .int ns.sum) (fun _ _ => rfl) (fun F H v ex h => by
    obtain ⟨p, vs, rfl, k1, k2⟩ := h.lst ex
    cases k2.ints
    exact ⟨_, cr_sum hc, fun P hp => ⟨p, ns, rfl, .inl (.inl k1), hp⟩⟩) q
/-- a new list, a new tuple as the result -/
theorem new_lst {K : PySem.W.Frag} {F0 T F G H : Hp} {r : Env2} {σ : L2.St} (S : Sta K F0 T F G H r σ) {ds : List D} {vs : List V} (h : RepL K F ds vs) {p : Addr} (hp : H p = none) {Q : Res → Prop} (q : Q (.fr (.lst ds))) :
    ∃ x F', Ex F F' ∧ Sta K F0 T F' G (upd H p (.lst vs)) r σ ∧ ResOk K T F' G (upd H p (.lst vs)) r σ x (.ref p) ∧ Q x := by
  obtain ⟨f1, f2, f3⟩ := S.bas.freshF hp
  exact ⟨.fr (.lst ds), F, Ex.refl _, S.newH hp, ⟨p, rfl, ⟨vs, upd_same, h⟩, f1, f2, f3, S.freshR hp⟩, q⟩
theorem new_tup {K : PySem.W.Frag} {F0 T F G H : Hp} {r : Env2} {σ : L2.St} (S : Sta K F0 T F G H r σ) {ds : List D} {vs : List V} (h : RepL K F ds vs) {p : Addr} (hp : H p = none) {Q : Res → Prop} (q : Q (.sh (.tup ds))) :
    ∃ x F', Ex F F' ∧ Sta K F0 T F' G (upd H p (.tup vs)) r σ ∧ ResOk K T F' G (upd H p (.tup vs)) r σ x (.ref p) ∧ Q x := by
  have ef : Ex F (upd F p (.tup vs)) := Ex.new (S.bas.freshF hp).1
  exact ⟨.sh (.tup ds), upd F p (.tup vs), ef, S.newF hp, ⟨p, vs, rfl, .inl (.inl upd_same), RepL.mono ef _ _ h⟩, q⟩
theorem c_list {ds : List D} (q : Q (.fr (.lst ds))) : CallW1 X (.type "list") (.lst ds) Q := fun F0 T F G H r σ v S h => by
  obtain ⟨p, vs, rfl, k1, k2⟩ := h.lst S.bas.fh
  exact ⟨_, call_list_of, p, vs, rfl, .inl (.inl (.inl k1)), fun l hl => new_lst S k2 hl q⟩
theorem c_listT {ds : List D} (q : Q (.fr (.lst ds))) : CallW1 X (.type "list") (.tup ds) Q := fun F0 T F G H r σ v S h => by
  obtain ⟨p, vs, rfl, k1, k2⟩ := h.tup S.bas.fh
  exact ⟨_, call_list_of, p, vs, rfl, .inr k1, fun l hl => new_lst S k2 hl q⟩
theorem c_tuple {ds : List D} (q : Q (.sh (.tup ds))) : CallW1 X (.type "tuple") (.lst ds) Q := fun F0 T F G H r σ v S h => by
  obtain ⟨p, vs, rfl, k1, k2⟩ := h.lst S.bas.fh
  exact ⟨_, call_tuple_of, p, vs, rfl, .inl ⟨.inl (.inl k1), fun l hl => new_tup S k2 hl q⟩⟩
theorem c_tupleT {ds : List D} (q : Q (.sh (.tup ds))) : CallW1 X (.type "tuple") (.tup ds) Q := fun F0 T F G H r σ v S h => by
  have rp : Rep X.K F (.tup ds) v := by
    rcases h with h | ⟨_, _, h⟩
    · exact h
    · exact h.elim
  obtain ⟨p, vs, rfl, k1, k2⟩ := h.tup S.bas.fh
  exact ⟨_, call_tuple_of, p, vs, rfl, .inr ⟨k1, .sh (.tup ds), F, Ex.refl _, S, rp, q⟩⟩
theorem c_sorted {ns : List Int} (q : Q (.fr (.lst ((isort ns).map D.int)))) : CallW1 X (.builtin "sorted") (.lst (ns.map D.int)) Q := fun F0 T F G H r σ v S h => by
  obtain ⟨p, vs, rfl, k1, k2⟩ := h.lst S.bas.fh
  cases k2.ints
  refine ⟨_, cr_sortedI, p, ns, rfl, .inl (.inl k1), fun ns' l p1 p2 hl => ?_⟩
  cases isort_of p1 p2
  exact new_lst S (RepL.of_ints _) hl q

/-! ### in -/
theorem inV_ints (i : Int) : ∀ ns : List Int, inV (.int i) (ns.map V.int) = decide (i ∈ ns)
  | [] => by simp [inV]
  | n :: ns => by
    have ih := inV_ints i ns
    unfold inV at ih ⊢
    rw [List.map_cons, List.any_cons, ih]
    have e1 : eqV (.int n) (.int i) = decide (i = n) := by
      show (n == i) = decide (i = n)
      by_cases h : n = i
      · subst h; simp
      · have h2 : ¬ i = n := fun z => h z.symm
        simp [h, h2]
    rw [e1]
    by_cases h : i = n
    · subst h; simp
    · simp [h]
theorem flat_ints (ns : List Int) : (ns.map V.int).all flatV = true := by
  induction ns with
  | nil => rfl
  | cons n ns ih => rw [List.map_cons, List.all_cons, ih]; rfl
theorem opw_in {i : Int} {ns : List Int} (q : Q (.sh (.bl (decide (i ∈ ns))))) : OpW X (compareOp .In) (.int i) (.lst (ns.map D.int)) Q :=
  opw_flat (d := .bl (decide (i ∈ ns))) (v := .bl (decide (i ∈ ns))) (fun _ _ => rfl) (fun F H va vb ex h1 h2 => by
    obtain ⟨p, vs, rfl, k1, k2⟩ := h2.lst ex
    cases h1.int
    cases k2.ints
    exact ⟨_, op_in_seq, fun P hp => ⟨p, _, rfl, .inl (.inl (.inl k1)), rfl, flat_ints ns, by rw [if_neg Bool.false_ne_true, inV_ints]; exact hp⟩⟩) q
theorem opw_inT {i : Int} {ns : List Int} (q : Q (.sh (.bl (decide (i ∈ ns))))) : OpW X (compareOp .In) (.int i) (.tup (ns.map D.int)) Q :=
  opw_flat (d := .bl (decide (i ∈ ns))) (v := .bl (decide (i ∈ ns))) (fun _ _ => rfl) (fun F H va vb ex h1 h2 => by
    obtain ⟨p, vs, rfl, k1, k2⟩ := h2.tup ex
    cases h1.int
    cases k2.ints
    exact ⟨_, op_in_seq, fun P hp => ⟨p, _, rfl, .inr k1, rfl, flat_ints ns, by rw [if_neg Bool.false_ne_true, inV_ints]; exact hp⟩⟩) q
theorem opw_nin {i : Int} {ns : List Int} (q : Q (.sh (.bl (!decide (i ∈ ns))))) : OpW X (compareOp .NotIn) (.int i) (.lst (ns.map D.int)) Q :=
  opw_flat (d := .bl (!decide (i ∈ ns))) (v := .bl (!decide (i ∈ ns))) (fun _ _ => rfl) (fun F H va vb ex h1 h2 => by
    obtain ⟨p, vs, rfl, k1, k2⟩ := h2.lst ex
    cases h1.int
    cases k2.ints
    exact ⟨_, op_notIn_seq, fun P hp => ⟨p, _, rfl, .inl (.inl (.inl k1)), rfl, flat_ints ns, by rw [if_pos rfl, inV_ints]; exact hp⟩⟩) q
theorem opw_ninT {i : Int} {ns : List Int} (q : Q (.sh (.bl (!decide (i ∈ ns))))) : OpW X (compareOp .NotIn) (.int i) (.tup (ns.map D.int)) Q :=
  opw_flat (d := .bl (!decide (i ∈ ns))) (v := .bl (!decide (i ∈ ns))) (fun _ _ => rfl) (fun F H va vb ex h1 h2 => by
    obtain ⟨p, vs, rfl, k1, k2⟩ := h2.tup ex
    cases h1.int
    cases k2.ints
    exact ⟨_, op_notIn_seq, fun P hp => ⟨p, _, rfl, .inr k1, rfl, flat_ints ns, by rw [if_pos rfl, inV_ints]; exact hp⟩⟩) q

/-! ### slices -/
def cutD (xs : List D) (lo hi : Option Int) : List D := (xs.drop (HT.sIx xs.length 0 lo)).take (HT.sIx xs.length xs.length hi - HT.sIx xs.length 0 lo)
theorem cut_rep {K : PySem.W.Frag} {F : Hp} {ds : List D} {vs : List V} (h : RepL K F ds vs) (lo hi : Option Int) : RepL K F (cutD ds lo hi) (cutV vs lo hi) := by
  unfold cutD cutV
  rw [h.length]
  exact (h.drop _).take _
def RunO (X : Cx) (oe : Option Expr) : TO := fun σ H Q => ∀ (pins : List (Addr × Obj)) (s : Shared), Inv X pins σ H s → wpAny (model X.prog X.w) X.A (evalPart oe X.env) (fun u s' => ∃ o H', Inv X pins σ H' s' ∧ IsPart u o ∧ Q o H') X.xe s
theorem poR {oe : Option Expr} : PO X oe (RunO X oe) := ⟨fun pins s _ _ _ I h => h pins s I⟩
def WO (X : Cx) (oe : Option Expr) (r : Env2) (G : Hp) (Q : Option Int → Env2 → Hp → Prop) : Prop :=
  ∀ (F0 T F H : Hp) (σ : L2.St), Sta X.K F0 T F G H r σ → RunO X oe σ H (fun o H' => ∃ r' G' F', Ex F F' ∧ Sta X.K F0 T F' G' H' r' σ ∧ Q o r' G')
theorem RunO.mono {oe : Option Expr} {σ : L2.St} {H : Hp} {Q Q' : Option Int → Hp → Prop} (h : RunO X oe σ H Q) (k : ∀ v H', Q v H' → Q' v H') : RunO X oe σ H Q' := fun pins s I =>
  wpAny_mono (h pins s I) (fun _ _ ⟨o, H', I', p, q⟩ => ⟨o, H', I', p, k _ H' q⟩) fun _ _ x => x
theorem wo_none {Q : Option Int → Env2 → Hp → Prop} (q : Q none r G) : WO X none r G Q := fun F0 T F H σ S pins s I => po_none.run pins s σ H _ I ⟨r, G, F, Ex.refl _, S, q⟩
theorem wo_some {Q : Option Int → Env2 → Hp → Prop} (h : WE X e r G fun x r1 G1 => ∃ i, vw r1 x = some (.int i) ∧ Q (some i) r1 G1) : WO X (some e) r G Q := fun F0 T F H σ S pins s I =>
  (po_some peR).run pins s σ H _ I ((h F0 T F H σ S).mono fun v H1 ⟨x, r1, G1, F1, e1, S1, k1, i, q1, q2⟩ => ⟨i, (S1.view k1 q1).int, r1, G1, F1, e1, S1, q2⟩)
def SlW (X : Cx) (d : D) (lo hi : Option Int) (Q : Res → Prop) : Prop :=
  ∀ (F0 T F G H : Hp) (r : Env2) (σ : L2.St) (v : V), Sta X.K F0 T F G H r σ → Vw X.K F H d v →
    ∃ rr, L2.SlR X rr ∧ rr v lo hi H (fun v' H' => ∃ x F', Ex F F' ∧ Sta X.K F0 T F' G H' r σ ∧ ResOk X.K T F' G H' r σ x v' ∧ Q x)
def slU (X : Cx) : V → Option Int → Option Int → Hp → VK → Prop := fun x lo hi H Q => ∃ rr, L2.SlR X rr ∧ rr x lo hi H Q
theorem SlR.post {rr : V → Option Int → Option Int → Hp → VK → Prop} (h : L2.SlR X rr) (P : VK) : L2.SlR X (fun x lo hi H Q' => rr x lo hi H P ∧ ∀ v H', P v H' → Q' v H') := fun pins s σ H x v vl vu lo hi sl Q' I rx hs pl pu ⟨q, m⟩ => by
  obtain ⟨T, id, h1, h2, h3⟩ := h pins s σ H x v vl vu lo hi sl P I rx hs pl pu q
  exact ⟨T, id, h1, h2, wpAny_mono h3 (fun _ _ ⟨v, H', I', rl, q⟩ => ⟨v, H', I', rl, m v H' q⟩) fun _ _ x => x⟩
theorem slU_ok : L2.SlR X (slU X) := fun pins s σ H x v vl vu lo hi sl Q I rx hs pl pu ⟨rr, h1, h2⟩ => h1 pins s σ H x v vl vu lo hi sl Q I rx hs pl pu h2
theorem we_slice {lo hi : Option Expr} {p2 : Pos} {Q : Res → Env2 → Hp → Prop} (h : WE X a r G fun x r1 G1 => WO X lo r1 G1 fun l r2 G2 => WO X hi r2 G2 fun u r3 G3 => ∃ d, VwR r3 G3 x d ∧ SlW X d l u fun z => Q z r3 G3) :
    WE X (.Subscript a (.Slice lo hi none p2) pos) r G Q := fun F0 T F H σ S => Run.of (pe_slice slU_ok peR poR poR) (by
  refine (h F0 T F H σ S).mono fun va H1 ⟨x, r1, G1, F1, e1, S1, k1, h1⟩ => ?_
  obtain ⟨F1', e1', S1', hv⟩ := hold S1 k1
  refine (h1 F0 T F1' H1 σ S1').mono fun l H2 ⟨r2, G2, F2, e2, S2, h2⟩ => ?_
  refine (h2 F0 T F2 H2 σ S2).mono fun u H3 ⟨r3, G3, F3, e3, S3, d, q1, q2⟩ => ?_
  obtain ⟨rr, h3, h4⟩ := q2 F0 T F3 G3 H3 r3 σ va S3 (hv F3 G3 H3 r3 d (e2.trans e3) S3 q1)
  exact ⟨_, SlR.post h3 _, h4, fun v H' ⟨z, F', m1, m2, m3, m4⟩ => ⟨z, r3, G3, F', (((e1.trans e1').trans e2).trans e3).trans m1, m2, m3, m4⟩⟩)
theorem slw_lst {ds : List D} {lo hi : Option Int} (q : Q (.fr (.lst (cutD ds lo hi)))) : SlW X (.lst ds) lo hi Q := fun F0 T F G H r σ v S h => by
  obtain ⟨p, vs, rfl, k1, k2⟩ := h.lst S.bas.fh
  exact ⟨_, sl_list, p, vs, rfl, .inl (.inl k1), fun l hl => new_lst S (cut_rep k2 lo hi) hl q⟩
theorem slw_tup {ds : List D} {lo hi : Option Int} (q : Q (.sh (.tup (cutD ds lo hi)))) : SlW X (.tup ds) lo hi Q := fun F0 T F G H r σ v S h => by
  have rp : Rep X.K F (.tup ds) v := by
    rcases h with h | ⟨_, _, h⟩
    · exact h
    · exact h.elim
  obtain ⟨p, vs, rfl, k1, k2⟩ := h.tup S.bas.fh
  refine ⟨_, sl_tupA, p, vs, rfl, k1, fun hw => ?_, fun _ l hl => new_tup S (cut_rep k2 lo hi) hl q⟩
  have ec : cutD ds lo hi = ds := by
    unfold cutD
    rw [← k2.length, hw.1, hw.2]
    simp [k2.length]
  rw [ec] at q
  exact ⟨.sh (.tup ds), F, Ex.refl _, S, rp, q⟩
end


/-! ### the base of a state moved -/
theorem Bas.base {F0 T F G H : Hp} (B : Bas F0 T F G H) : Bas F T F G H := ⟨Ex.refl _, fun _ _ h => .inl h, B.fh, B.gh, B.fg, B.gt, B.tk⟩
theorem Bas.back {F0 T F1 G1 H1 F G H : Hp} (B : Bas F0 T F1 G1 H1) (C : Bas F1 T F G H) : Bas F0 T F G H :=
  ⟨B.ff.trans C.ff, fun a o h => (C.ft a o h).elim (fun z => B.ft a o z) .inr, C.fh, C.gh, C.fg, C.gt, C.tk⟩
theorem Sta.base {K : PySem.W.Frag} {F0 T F G H : Hp} {r : Env2} {σ : L2.St} (S : Sta K F0 T F G H r σ) : Sta K F T F G H r σ := ⟨S.bas.base, S.len, S.sl, S.ap⟩
theorem Sta.back {K : PySem.W.Frag} {F0 T F1 G1 H1 F G H : Hp} {r : Env2} {σ : L2.St} (B : Bas F0 T F1 G1 H1) (S : Sta K F1 T F G H r σ) : Sta K F0 T F G H r σ := ⟨B.back S.bas, S.len, S.sl, S.ap⟩
theorem at_back {K : PySem.W.Frag} {F0 T F1 G1 H1 : Hp} (B : Bas F0 T F1 G1 H1) {Q : Env2 → Hp → Prop} {σ : L2.St} {H : Hp} (h : PostN K F1 T Q σ H) : PostN K F0 T Q σ H := by
  obtain ⟨r, G, F, S, q⟩ := h
  exact ⟨r, G, F, S.back B, q⟩
theorem rt_back {K : PySem.W.Frag} {F0 T F1 G1 H1 : Hp} (B : Bas F0 T F1 G1 H1) {Q : Res → Hp → Prop} {v : V} {H : Hp} (h : PostR K F1 T Q v H) : PostR K F0 T Q v H := by
  obtain ⟨x, G, F, C, k, q⟩ := h
  exact ⟨x, G, F, B.back C, k, q⟩

/-! ### targets -/
def RunG (X : Cx) (tg : Expr) : TG := fun v σ H Q => ∀ (pins : List (Addr × Obj)) (s : Shared) (u : Value), Inv X pins σ H s → RelV v u → wpAny (model X.prog X.w) X.A (assign tg X.env u) (fun _ s' => ∃ σ' H', Inv X pins σ' H' s' ∧ Q σ' H') X.xe s
theorem pgR {X : Cx} {tg : Expr} : PG X tg (RunG X tg) := ⟨fun pins s σ H v u Q I rv h => h pins s u I rv⟩
/-- frozen data goes to a target; σ' differs from σ in the slots is alone -/
def WG (X : Cx) (tg : Expr) (d : D) (r : Env2) (G : Hp) (is : List Nat) (Q : Env2 → Hp → Prop) : Prop :=
  ∀ (F0 T F H : Hp) (σ : L2.St) (v : V), Sta X.K F0 T F G H r σ → Rep X.K F d v → RunG X tg v σ H (fun σ' H' => wipe σ' is = wipe σ is ∧ ∃ r' G' F', Ex F F' ∧ Sta X.K F0 T F' G' H' r' σ' ∧ Q r' G')
theorem wipe_set {σ : L2.St} {i : Nat} {x : Option V} : ∀ {is : List Nat}, i ∈ is → wipe (σ.set i x) is = wipe σ is
  | [], h => by simp at h
  | j :: is, h => by
    unfold wipe
    by_cases hm : i ∈ is
    · rw [wipe_set hm]
    · have hj : i = j := by
        rcases List.mem_cons.mp h with z | z
        · exact z
        · exact absurd z hm
      subst hj
      have aux : ∀ (is : List Nat), i ∉ is → wipe (σ.set i x) is = (wipe σ is).set i x := by
        intro is
        induction is with
        | nil => intro _; rfl
        | cons k is ih =>
          intro hk
          unfold wipe
          rw [ih (fun z => hk (List.mem_cons_of_mem _ z)), List.set_comm _ _ (fun z => hk (by rw [z]; exact List.mem_cons_self))]
      rw [aux is hm, List.set_set]
section
variable {X : Cx} {e a b c o tg : Expr} {es : List Expr} {st : Stmt} {sts rest body orelse : List Stmt} {r : Env2} {G : Hp} {pos p0 : Pos} {D0 : EndsD}
theorem wg_name (i : Nat) {x : Str} {d : D} {is : List Nat} {Q : Env2 → Hp → Prop} (hN : X.N.Nodup) (hi : X.N[i]? = some x) (hx : Loc X.env.scope x) (hm : i ∈ is) (hl : i < r.length) (q : Q (r.set i (.sh d)) G) (hf : X.fn x = true ∨ X.env.scope.names.lookup x = some .local := by first | exact .inl rfl | exact .inr rfl | assumption) :
    WG X (.Name x pos) d r G is Q := fun F0 T F H σ v S rp pins s u I rv => by
  refine (pg_name hN hi hx hf).run pins s σ H v u _ I rv ⟨wipe_set hm, r.set i (.sh d), G, F, Ex.refl _, S.set hl ⟨v, rfl, rp⟩ (fun d' z => nomatch z), q⟩
theorem fold_wipe : ∀ (ixs : List Nat) (vs : List V) (σ : L2.St) {is : List Nat}, (∀ i ∈ ixs, i ∈ is) → wipe ((ixs.zip vs).foldl (fun s p => s.set p.1 (some p.2)) σ) is = wipe σ is
  | [], _, _, _, _ => by simp
  | _ :: _, [], _, _, _ => by simp
  | i :: ixs, v :: vs, σ, is, h => by
    rw [List.zip_cons_cons, List.foldl_cons, fold_wipe ixs vs _ fun j hj => h j (List.mem_cons_of_mem _ hj)]
    exact wipe_set (h i List.mem_cons_self)
theorem wg_tup {ts : List Expr} {k : Nat} (ixs : List Nat) {ds : List D} {is : List Nat} {Q : Env2 → Hp → Prop} (hc : X.calm = true) (hp : All2 (fun t i => PG X t (gName i)) ts ixs) (hst : ∀ t ∈ ts, ∀ us, (assignEach (t :: us) X.env).map (·.2) = assign t X.env :: (assignEach us X.env).map (·.2))
    (hm : ∀ i ∈ ixs, i ∈ is) (hl : ds.length = ixs.length) (hr : ∀ i ∈ ixs, i < r.length) (q : Q (setAll r ixs ds) G) (hn : (assignEach ts X.env).length = ixs.length := by rfl) (hf : (assignEach ts X.env).findIdx? (·.1) = none := by rfl) :
    WG X (.Tuple ts k pos) (.tup ds) r G is Q := fun F0 T F H σ v S rp pins s u I rv => by
  obtain ⟨a, vs, rfl, z1, z2⟩ := rp
  refine (pg_tup hc (pgs_run hp hst) hn hf).run pins s σ H _ u _ I rv ⟨a, vs, rfl, S.bas.fh.sqT z1, by rw [z2.length]; exact hl, by rw [z2.length]; exact hl, fold_wipe ixs vs σ hm, _, G, F, Ex.refl _, S.setAll ixs ds vs z2 hl.symm hr, q⟩

/-! ### loops -/
/-- a turn of a loop: the item goes to the target, the body runs -/
theorem turn1 {d : D} {v : V} {is : List Nat} {F0 T Fa Ga Ha F H : Hp} {σ : L2.St} {I : Env2 → Hp → Prop} (B : Bas F0 T Fa Ga Ha) (S : Sta X.K Fa T F G H r σ) (rp : Rep X.K F d v) (h : WG X tg d r G is fun r1 G1 => WB X body r1 G1 { D0 with nx := I, ct := I, bk := D0.nx }) {P : L2.St → Hp → Prop}
    (hP : ∀ σ' H', PostN X.K Fa T I σ' H' → P σ' H') : RunG X tg v σ H fun σ2 H2 => RunB X body { D0.at X.K F0 T with nx := P, ct := P, bk := (D0.at X.K F0 T).nx } σ2 H2 := fun pins s u J rv => by
  refine wpAny_mono (h Fa T F H σ v S rp pins s u J rv) (fun _ s' ⟨σ', H', J', _, r', G', F', e', S', q⟩ => ⟨σ', H', J', ?_⟩) fun _ _ x => x
  exact (q Fa T F' H' σ' S').mono hP (fun v H z => rt_back B z) (fun σ H z => at_back B z) hP
theorem ws_forL {is : List Nat} (hp : PassesOwn (model X.prog X.w) X.A X.env X.xe) (hc : X.calm = true)
    (h : WE X e r G fun x r1 G1 => ∃ ds r2, fz r1 x = some (.lst ds, r2) ∧ ∃ I : Nat → Env2 → Hp → Prop, I 0 r2 G1 ∧ (∀ (k : Nat) (d : D) (r3 : Env2) (G3 : Hp), ds[k]? = some d → I k r3 G3 → WG X tg d r3 G3 is fun r4 G4 => WB X body r4 G4 { D0 with nx := I (k + 1), ct := I (k + 1), bk := D0.nx }) ∧
      ∀ r3 G3, I ds.length r3 G3 → D0.nx r3 G3) (hs : ∀ x, foldedSetIterable e X.env x = pure x := by intro _; rfl) : WS X (.For tg e body [] pos) r G D0 := fun F0 T F H σ S =>
  RunS.of (ps_for hp hc (pi_list peR) pgR pbR hs) ((h F0 T F H σ S).mono fun v H1 ⟨x, r1, G1, F1, e1, S1, k1, ds, r2, q1, I, i0, it, ie⟩ => by
    obtain ⟨Fa, e2, Sa, rp⟩ := S1.fz k1 q1
    obtain ⟨a, vs, rfl, z1, z2⟩ := rp
    refine ⟨a, rfl, ⟨vs, .inl (.inl (Sa.bas.fh _ _ z1))⟩, for_list (xs := vs) (fun k σ' H' => PostN X.K Fa T (I k) σ' H') ⟨r2, G1, Fa, Sa.base, i0⟩ (fun k σ' H' _ ⟨r', G', F', S', _⟩ => .inl (.inl (S'.bas.fh _ _ (S'.bas.ff _ _ z1)))) (fun k x' σ' H' hx ⟨r', G', F', S', q'⟩ => ?_) fun σ' H' ⟨r', G', F', S', q'⟩ => ?_⟩
    · obtain ⟨d, hd, rd⟩ := z2.getV hx
      exact turn1 Sa.bas S' (Rep.mono S'.bas.ff _ _ rd) (it k d r' G' hd q') fun _ _ z => z
    · rw [z2.length] at q'
      exact at_back Sa.bas ⟨r', G', F', S', ie r' G' q'⟩)
theorem ws_forT {is : List Nat} (hp : PassesOwn (model X.prog X.w) X.A X.env X.xe) (hc : X.calm = true)
    (h : WE X e r G fun x r1 G1 => ∃ ds r2, fz r1 x = some (.tup ds, r2) ∧ ∃ I : Nat → Env2 → Hp → Prop, I 0 r2 G1 ∧ (∀ (k : Nat) (d : D) (r3 : Env2) (G3 : Hp), ds[k]? = some d → I k r3 G3 → WG X tg d r3 G3 is fun r4 G4 => WB X body r4 G4 { D0 with nx := I (k + 1), ct := I (k + 1), bk := D0.nx }) ∧
      ∀ r3 G3, I ds.length r3 G3 → D0.nx r3 G3) (hs : ∀ x, foldedSetIterable e X.env x = pure x := by intro _; rfl) : WS X (.For tg e body [] pos) r G D0 := fun F0 T F H σ S =>
  RunS.of (ps_for hp hc (pi_tup peR) pgR pbR hs) ((h F0 T F H σ S).mono fun v H1 ⟨x, r1, G1, F1, e1, S1, k1, ds, r2, q1, I, i0, it, ie⟩ => by
    obtain ⟨Fa, e2, Sa, rp⟩ := S1.fz k1 q1
    obtain ⟨a, vs, rfl, z1, z2⟩ := rp
    refine ⟨a, rfl, ⟨vs, Sa.bas.fh.sqT z1⟩, for_tup (xs := vs) (fun k σ' H' => PostN X.K Fa T (I k) σ' H') ⟨r2, G1, Fa, Sa.base, i0⟩ (fun k σ' H' _ ⟨r', G', F', S', _⟩ => S'.bas.fh.sqT (S'.bas.ff.sqT z1)) (fun k x' σ' H' hx ⟨r', G', F', S', q'⟩ => ?_) fun σ' H' ⟨r', G', F', S', q'⟩ => ?_⟩
    · obtain ⟨d, hd, rd⟩ := z2.getV hx
      exact turn1 Sa.bas S' (Rep.mono S'.bas.ff _ _ rd) (it k d r' G' hd q') fun _ _ z => z
    · rw [z2.length] at q'
      exact at_back Sa.bas ⟨r', G', F', S', ie r' G' q'⟩)
theorem ws_forR {is : List Nat} (hp : PassesOwn (model X.prog X.w) X.A X.env X.xe) (hc : X.calm = true) (hg : Gl X "range") (hm : X.mg "range" = none)
    (h : WE X a r G fun x r1 G1 => ∃ n, vw r1 x = some (.int n) ∧ (-(2 ^ 62) ≤ n ∧ n < 2 ^ 62) ∧ ∃ I : Nat → Env2 → Hp → Prop, I 0 r1 G1 ∧ (∀ (k : Nat) (r3 : Env2) (G3 : Hp), (k : Int) < n → I k r3 G3 → WG X tg (.int (k : Nat)) r3 G3 is fun r4 G4 => WB X body r4 G4 { D0 with nx := I (k + 1), ct := I (k + 1), bk := D0.nx }) ∧
      ∀ r3 G3, I n.toNat r3 G3 → D0.nx r3 G3) (hst : starEach [a] X.env = [(false, eval a X.env)] := by rfl) (hs : ∀ x, foldedSetIterable (.Call (.Name "range" p0) [a] [] pos) X.env x = pure x := by intro _; rfl) {pos' : Pos} : WS X (.For tg (.Call (.Name "range" p0) [a] [] pos) body [] pos') r G D0 := fun F0 T F H σ S =>
  RunS.of (ps_for hp hc (pi_range1 hg hm (pa_cons peR pa_nil hst) hst) pgR pbR hs) ((h F0 T F H σ S).mono fun v H1 ⟨x, r1, G1, F1, e1, S1, k1, n, q1, hn, I, i0, it, ie⟩ => by
    refine ⟨n, by rw [(S1.view k1 q1).int], hn.1, hn.2, for_range (lo := 0) (n := n.toNat) (fun k σ' H' => PostN X.K F1 T (I k) σ' H') ⟨r1, G1, F1, S1.base, i0⟩ (fun k σ' H' hk ⟨r', G', F', S', q'⟩ => ?_) fun σ' H' ⟨r', G', F', S', q'⟩ => at_back S1.bas ⟨r', G', F', S', ie r' G' q'⟩⟩
    have e0 : (0 : Int) + ((k : Nat) : Int) = ((k : Nat) : Int) := Int.zero_add _
    rw [e0]
    exact turn1 S1.bas S' (d := .int (k : Nat)) rfl (it k r' G' (by omega) q') fun _ _ z => z)
theorem ws_forR2 {is : List Nat} (hp : PassesOwn (model X.prog X.w) X.A X.env X.xe) (hc : X.calm = true) (hg : Gl X "range") (hm : X.mg "range" = none)
    (h : WE X a r G fun x r1 G1 => WE X b r1 G1 fun y r2 G2 => ∃ lo n, vw r2 x = some (.int lo) ∧ vw r2 y = some (.int n) ∧ ((-(2 ^ 62) ≤ lo ∧ lo < 2 ^ 62) ∧ -(2 ^ 62) ≤ n ∧ n < 2 ^ 62) ∧ ∃ I : Nat → Env2 → Hp → Prop, I 0 r2 G2 ∧ (∀ (k : Nat) (r3 : Env2) (G3 : Hp), lo + (k : Int) < n → I k r3 G3 → WG X tg (.int (lo + (k : Nat))) r3 G3 is fun r4 G4 => WB X body r4 G4 { D0 with nx := I (k + 1), ct := I (k + 1), bk := D0.nx }) ∧
      ∀ r3 G3, I (n - lo).toNat r3 G3 → D0.nx r3 G3) (hst : starEach [a, b] X.env = [(false, eval a X.env), (false, eval b X.env)] := by rfl) (hst2 : starEach [b] X.env = [(false, eval b X.env)] := by rfl) (hs : ∀ x, foldedSetIterable (.Call (.Name "range" p0) [a, b] [] pos) X.env x = pure x := by intro _; rfl) {pos' : Pos} : WS X (.For tg (.Call (.Name "range" p0) [a, b] [] pos) body [] pos') r G D0 := fun F0 T F H σ S =>
  RunS.of (ps_for hp hc (pi_range2 hg hm (pa_cons peR (pa_cons peR pa_nil (by rw [hst2]; rfl)) (by rw [hst, hst2])) hst hst2) pgR pbR hs) ((h F0 T F H σ S).mono fun v H1 ⟨x, r1, G1, F1, e1, S1, k1, h1⟩ => by
    obtain ⟨F1', e1', S1', hv⟩ := hold S1 k1
    refine (h1 F0 T F1' H1 σ S1').mono fun v2 H2 ⟨y, r2, G2, F2, e2, S2, k2, lo, n, q1, q2, hn, I, i0, it, ie⟩ => ?_
    refine ⟨lo, n, by rw [(hv F2 G2 H2 r2 _ e2 S2 (.inl q1)).int, (S2.view k2 q2).int], ⟨hn.1.1, hn.1.2, hn.2.1, hn.2.2⟩, for_range (lo := lo) (n := (n - lo).toNat) (fun k σ' H' => PostN X.K F2 T (I k) σ' H') ⟨r2, G2, F2, S2.base, i0⟩ (fun k σ' H' hk ⟨r', G', F', S', q'⟩ => ?_) fun σ' H' ⟨r', G', F', S', q'⟩ => at_back S2.bas ⟨r', G', F', S', ie r' G' q'⟩⟩
    exact turn1 S2.bas S' (d := .int (lo + (k : Nat))) rfl (it k r' G' (by omega) q') fun _ _ z => z)
/-- while, by a word and a measure -/
theorem ws_while (hp : PassesOwn (model X.prog X.w) X.A X.env X.xe) (I : Nat → Env2 → Hp → Prop) (m0 : Nat) (i0 : I m0 r G)
    (h : ∀ (m : Nat) (r1 : Env2) (G1 : Hp), I m r1 G1 → WT X c r1 G1 fun d r2 G2 => (d = true → WB X body r2 G2 { D0 with nx := fun r3 G3 => ∃ m', m' < m ∧ I m' r3 G3, ct := fun r3 G3 => ∃ m', m' < m ∧ I m' r3 G3, bk := D0.nx }) ∧ (d = false → D0.nx r2 G2)) : WS X (.While c body [] pos) r G D0 := fun F0 T F H σ S =>
  RunS.of (ps_while hp ptR pbR) ⟨fun m σ' H' => PostN X.K F0 T (I m) σ' H', ⟨m0, r, G, F, S, i0⟩, fun m σ' H' ⟨r', G', F', S', q'⟩ => by
    refine (h m r' G' q' F0 T F' H' σ' S').mono fun d H2 ⟨r2, G2, F2, e2, S2, q1, q2⟩ => ?_
    cases d with
    | true =>
      rw [if_pos rfl]
      exact ⟨PostN X.K F0 T fun r3 G3 => ∃ m', m' < m ∧ I m' r3 G3, fun σ3 H3 ⟨r3, G3, F3, S3, m', hm, q3⟩ => ⟨m', hm, r3, G3, F3, S3, q3⟩, q1 rfl F0 T F2 H2 σ' S2⟩
    | false =>
      rw [if_neg Bool.false_ne_true]
      exact ⟨r2, G2, F2, S2, q2 rfl⟩⟩

/-! ### calls of defs -/
abbrev FSp := List D → Hp → (Res → Hp → Prop) → Prop
/-- what others hold at a call -/
def Tof (G H : Hp) : Hp := fun a => match G a with
  | none => H a
  | some _ => none
theorem Tof_none {G H : Hp} {a : Addr} (h : G a = none) : Tof G H a = H a := by unfold Tof; rw [h]
theorem Tof_some {G H : Hp} {a : Addr} {o : HO} (h : G a = some o) : Tof G H a = none := by unfold Tof; rw [h]
/-- a def's promise over data -/
def spD (K : PySem.W.Frag) (f : FSp) : Sp := fun vs H Q _ => ∃ (F G : Hp) (ds : List D) (post : Res → Hp → Prop), Ex F H ∧ Ex G H ∧ (∀ a o, G a = some o → F a = none) ∧ RepL K F ds vs ∧ f ds G post ∧
  ∀ x G' v H' F', post x G' → Bas F (Tof G H) F' G' H' → RtOk K (Tof G H) F' G' H' x v → Q v H'
/-- behind a call the caller's state stands -/
theorem Sta.after {K : PySem.W.Frag} {F0 T F G H F' G' H' : Hp} {r : Env2} {σ : L2.St} (S : Sta K F0 T F G H r σ) (B : Bas F (Tof G H) F' G' H') : Sta K F0 T F' G' H' r σ := by
  have tt : ∀ a o, T a = some o → Tof G H a = some o := fun a o h => by
    have hg : G a = none := by
      cases e : G a with
      | none => rfl
      | some u => rw [S.bas.gt a u e] at h; cases h
    rw [Tof_none hg]
    exact S.bas.tk a o h
  refine S.grow ⟨S.bas.ff.trans B.ff, fun a o h => ?_, B.fh, B.gh, B.fg, fun a o h => ?_, fun a o h => B.tk a o (tt a o h)⟩ B.ff fun p h1 h2 h3 ⟨u, hu⟩ => ?_
  · rcases B.ft a o h with z | z
    · exact S.bas.ft a o z
    · cases e : T a with
      | none => exact .inr rfl
      | some u => rw [tt a u e] at z; cases z
  · cases e : T a with
    | none => rfl
    | some u =>
      have z := B.gt a o h
      rw [tt a u e] at z; cases z
  · have hT : Tof G H p = some u := by rw [Tof_none h2]; exact hu
    refine ⟨fun o ho => by rw [hu] at ho; cases ho; exact B.tk p u hT, ?_, ?_, h3⟩
    · cases e : F' p with
      | none => rfl
      | some w =>
        rcases B.ft p w e with z | z
        · rw [h1] at z; cases z
        · rw [hT] at z; cases z
    · cases e : G' p with
      | none => rfl
      | some w => have z := B.gt p w e; rw [hT] at z; cases z
theorem ResOk.after {K : PySem.W.Frag} {F0 T F G H F' G' H' : Hp} {r : Env2} {σ : L2.St} {x : Res} {v : V} (S : Sta K F0 T F G H r σ) (B : Bas F (Tof G H) F' G' H') (h : RtOk K (Tof G H) F' G' H' x v) : ResOk K T F' G' H' r σ x v := by
  cases x with
  | sh d => exact h
  | pk i => exact h.elim
  | fr d =>
    obtain ⟨p, rfl, h2, h3, h4, h5⟩ := h
    refine ⟨p, rfl, h2, h3, h4, ?_, fun i e he z => ?_⟩
    · cases e : T p with
      | none => rfl
      | some u =>
        have hg : G p = none := by
          cases eg : G p with
          | none => rfl
          | some w => rw [S.bas.gt p w eg] at e; cases e
        rw [Tof_none hg, S.bas.tk p u e] at h5; cases h5
    · obtain ⟨q, z1, z2, z3, z4, z5⟩ := S.ownS he
      rw [z] at z1; cases z1
      obtain ⟨o, ho⟩ := z2.there
      rw [Tof_none z4, ho] at h5; cases h5
theorem we_call {f : Addr} {fd : FuncData} {ps : List Str} {sp : FSp} {k : Nat} {x : Str} {Q : Res → Env2 → Hp → Prop} (Fo : FnOk X.prog X.w X.K X.mg X.base CX0 k f fd ps (spD X.K sp)) (hr : Room k X.A) (hg : Gl X x) (hm : X.mg x = some (.ref f)) (hk : PySem.W.keepIn X.K (.ref f) = true) (hb : Binds X.K fd ps [])
    (h : WA X (e :: es) r G fun ds r1 G1 => sp ds G1 fun z G2 => Q z r1 G2)
    (hdb : (x == ("__debug__" : Str)) = false := by decide) (he : starEach (e :: es) X.env = (false, eval e X.env) :: starEach es X.env := by rfl) (hpl : (backTo pos (starEach es X.env)).any (·.1) = false := by rfl) : WE X (.Call (.Name x p0) (e :: es) [] pos) r G Q := fun F0 T F H σ S =>
  Run.of (pe_call Fo hr hg hm hk hb .nil pass0 paR hdb he hpl) ((h F0 T F H σ S).mono fun vs H1 ⟨ds, r1, G1, F1, e1, S1, k1, q⟩ => by
    rw [List.append_nil]
    exact ⟨F1, G1, ds, _, S1.bas.fh, S1.bas.gh, S1.bas.fg, k1, q, fun x G' v H' F' hp B rt => ⟨x, r1, G', F', e1.trans B.ff, S1.after B, ResOk.after S1 B rt, hp⟩⟩)
theorem we_call0 {f : Addr} {fd : FuncData} {ps : List Str} {sp : FSp} {k : Nat} {x : Str} {Q : Res → Env2 → Hp → Prop} (Fo : FnOk X.prog X.w X.K X.mg X.base CX0 k f fd ps (spD X.K sp)) (hr : Room k X.A) (hg : Gl X x) (hm : X.mg x = some (.ref f)) (hk : PySem.W.keepIn X.K (.ref f) = true) (hb : Binds X.K fd ps [])
    (h : sp [] G fun z G2 => Q z r G2) (hdb : (x == ("__debug__" : Str)) = false := by decide) : WE X (.Call (.Name x p0) [] [] pos) r G Q := fun F0 T F H σ S =>
  Run.of (pe_call0 Fo hr hg hm hk hb .nil pass0 hdb) ⟨F, G, [], _, S.bas.fh, S.bas.gh, S.bas.fg, rfl, h, fun x G' v H' F' hp B rt => ⟨x, r, G', F', B.ff, S.after B, ResOk.after S B rt, hp⟩⟩
end
/-! ### defs -/
def startD (N : List Str) (ds : List D) : Env2 := ds.map .sh ++ List.replicate (N.length - ds.length) .no
theorem sta_start {K : PySem.W.Frag} {F G H : Hp} {N : List Str} {ds : List D} {vs : List V} (hl : ds.length ≤ N.length) (e1 : Ex F H) (e2 : Ex G H) (e3 : ∀ a o, G a = some o → F a = none) (h : RepL K F ds vs) : Sta K F (Tof G H) F G H (startD N ds) (L2.start N vs) := by
  have hv := h.length
  refine ⟨⟨Ex.refl _, fun _ _ z => .inl z, e1, e2, e3, fun a o z => Tof_some z, fun a o z => ?_⟩, ?_, fun i s z => ?_, fun i j d e _ z => ?_⟩
  · unfold Tof at z
    split at z
    · exact z
    · cases z
  · unfold startD L2.start
    simp only [List.length_append, List.length_map, List.length_replicate, hv]
  · unfold startD at z
    by_cases hi : i < ds.length
    · rw [List.getElem?_append_left (by simpa using hi), List.getElem?_map, List.getElem?_eq_getElem hi] at z
      cases z
      obtain ⟨v, q1, q2⟩ := h.get (List.getElem?_eq_getElem hi)
      refine ⟨v, ?_, q2⟩
      unfold L2.start
      rw [List.getElem?_append_left (by rw [List.length_map, hv]; exact hi), List.getElem?_map, q1]
      rfl
    · rw [List.getElem?_append_right (by simpa using hi), List.getElem?_replicate] at z
      split at z
      · cases z; trivial
      · cases z
  · exfalso
    unfold startD at z
    by_cases hi : i < ds.length
    · rw [List.getElem?_append_left (by simpa using hi), List.getElem?_map, List.getElem?_eq_getElem hi] at z
      cases z
    · rw [List.getElem?_append_right (by simpa using hi), List.getElem?_replicate] at z
      split at z
      · cases z
      · cases z
section
variable {P : Program} {w : World} {K : PySem.W.Frag} {mg : Str → Option Value} {base : Heap}
theorem def_ok {x qual : Str} {st : Stmt} {f : Addr} {fd : FuncData} {N ps : List Str} {k : Nat} {sp : FSp} (Fo : Fun K x qual st f fd) (S : FnScope N ps (defScope st)) (len : ∀ ds G post, sp ds G post → ds.length = ps.length)
    (hbody : ∀ (cdv : Value) (A : Around) (outer : List Env) (s : Shared) (H : Hp) (E : XK), Room k (A.deeper (envOfC qual (defScope st) s.heap.objs.size f cdv)) → ∀ (ds : List D) (G : Hp) (post : Res → Hp → Prop), sp ds G post →
      WB (cxOf CX0 P w K mg base N qual (defScope st) f cdv A outer s H E).nox (defBody st) (startD N ds) G { nx := fun _ G' => post (.sh .non) G', rt := post }) : FnOk P w K mg base CX0 (k + 1) f fd ps (spD K sp) := by
  refine Fo.ok S (fun vs H Q E h => ?_) (fun cdv A outer s H vs Q E hr h => ?_)
  · obtain ⟨F, G, ds, post, _, _, _, rp, hf, _⟩ := h
    rw [rp.length, len ds G post hf]
  · obtain ⟨F, G, ds, post, e1, e2, e3, rp, hf, hq⟩ := h
    have hl : ds.length ≤ N.length := by
      rw [len ds G post hf]
      have := congrArg List.length S.pre
      rw [List.length_take] at this
      omega
    refine ⟨RunB _ (defBody st), pbR, ?_⟩
    refine (hbody cdv A outer s H E hr ds G post hf F (Tof G H) F H (L2.start N vs) (sta_start hl e1 e2 e3 rp)).mono (fun σ' H' ⟨r', G', F', S', q⟩ => ?_) (fun v H' ⟨x, G', F', B, rt, q⟩ => hq x G' v H' F' q B rt) (fun _ _ ⟨_, _, _, _, q⟩ => q) (fun _ _ ⟨_, _, _, _, q⟩ => q)
    exact hq (.sh .non) G' .non H' F' q S'.bas rfl
end


/-! ### own lists changed -/
theorem Sta.mut {K : PySem.W.Frag} {F0 T F G H : Hp} {r : Env2} {σ : L2.St} (S : Sta K F0 T F G H r σ) {i : Nat} {d0 : D} (h : r[i]? = some (.own d0)) :
    ∃ p, σ[i]? = some (some (.ref p)) ∧ Own K F H p d0 ∧ F p = none ∧ ∀ (o' : HO) (d' : D), Own K F (upd H p o') p d' → Sta K F0 T F G (upd H p o') (r.set i (.own d')) σ := by
  obtain ⟨p, h1, h2, h3, h4, h5⟩ := S.ownS h
  have hi : i < r.length := (List.getElem?_eq_some_iff.mp h).1
  refine ⟨p, h1, h2, h3, fun o' d' ho => ⟨S.bas.put h3 h4 h5, by rw [List.length_set]; exact S.len, fun j s e => ?_, fun j k d e hjk ej ek => ?_⟩⟩
  · by_cases hj : i = j
    · subst hj
      rw [List.getElem?_set_self hi] at e
      cases e
      exact ⟨p, h1, ho, h3, h4, h5⟩
    · rw [List.getElem?_set_ne hj] at e
      have q := S.sl j s e
      cases s with
      | no => trivial
      | sh d => exact q
      | own d =>
        obtain ⟨p', q1, q2, q3, q4, q5⟩ := q
        have hpp : p' ≠ p := fun z => by
          subst z
          exact S.ap i j d0 d hj h e (h1.trans q1.symm)
        exact ⟨p', q1, q2.mono (Ex.refl _) fun u hu => by rw [upd_ne hpp]; exact hu, q3, q4, q5⟩
  · have own : ∀ (m : Nat) (x : D), (r.set i (.own d'))[m]? = some (.own x) → ∃ y, r[m]? = some (.own y) := fun m x hm => by
      by_cases hm2 : i = m
      · subst hm2; exact ⟨d0, h⟩
      · rw [List.getElem?_set_ne hm2] at hm; exact ⟨x, hm⟩
    obtain ⟨y1, hy1⟩ := own j d ej
    obtain ⟨y2, hy2⟩ := own k e ek
    exact S.ap j k y1 y2 hjk hy1 hy2
section
variable {X : Cx} {e e2 a b c o tg : Expr} {es : List Expr} {st : Stmt} {sts rest body orelse : List Stmt} {r : Env2} {G : Hp} {pos apos cpos p0 : Pos} {D0 : EndsD}
/-- what a method does to an own list: the answer, the new content -/
def MutW (X : Cx) (id : String) (ds args : List D) (Kt : D → List D → Prop) : Prop :=
  ∀ (F H : Hp) (p : Addr) (vs us : List V), H p = some (.lst vs) → F p = none → Ex F H → RepL X.K F ds vs → RepL X.K F args us →
    ∃ rr, MtR X id rr ∧ rr (.ref p) us H (fun v' H' => ∃ vs' res ds', H' = upd H p (.lst vs') ∧ Rep X.K F res v' ∧ RepL X.K F ds' vs' ∧ Kt res ds')
def mtU (X : Cx) (id : String) : V → List V → Hp → VK → Prop := fun x xs H Q => ∃ rr, MtR X id rr ∧ rr x xs H Q
theorem mtU_ok {id : String} : MtR X id (mtU X id) := fun pins s σ H x xs v us Q I rx rv ⟨rr, h1, h2⟩ => h1 pins s σ H x xs v us Q I rx rv h2
theorem MtR.post {id : String} {rr : V → List V → Hp → VK → Prop} (h : MtR X id rr) (P : VK) : MtR X id (fun x xs H Q' => rr x xs H P ∧ ∀ v H', P v H' → Q' v H') := fun pins s σ H x xs v us Q' I rx rv ⟨q, m⟩ =>
  wpAny_mono (h pins s σ H x xs v us P I rx rv q) (fun _ _ ⟨v, H', I', rl, q⟩ => ⟨v, H', I', rl, m v H' q⟩) fun _ _ x => x
theorem mut_end {id : String} {ds args : List D} {i : Nat} {F0 T F F1 H : Hp} {σ : L2.St} {v : V} {us : List V} {Q : Res → Env2 → Hp → Prop} (e1 : Ex F F1) (S : Sta X.K F0 T F1 G H r σ) (hi : r[i]? = some (.own (.lst ds))) (hv : σ[i]? = some (some v)) (ha : RepL X.K F1 args us)
    (h : MutW X id ds args fun res ds' => Q (.sh res) (r.set i (.own (.lst ds'))) G) : mtU X id v us H (PostE X.K F0 T F σ Q) := by
  obtain ⟨p, h1, ⟨vs, h2, h3⟩, h4, h5⟩ := S.mut hi
  rw [hv] at h1; cases h1
  obtain ⟨rr, k1, k2⟩ := h F1 H p vs us h2 h4 S.bas.fh h3 ha
  refine ⟨_, MtR.post k1 _, k2, fun v' H' ⟨vs', res, ds', z1, z2, z3, z4⟩ => ?_⟩
  subst z1
  exact ⟨.sh res, _, G, F1, e1, h5 _ (.lst ds') ⟨vs', upd_same, z3⟩, z2, z4⟩
theorem we_m1 {name : Str} {id : String} {Q : Res → Env2 → Hp → Prop} (pa : PlainAttrs "list") (slot : Slot "list" name id) (hty : typeOf (.builtin id) = pure (.type "method_descriptor"))
    (h : WE X o r G fun x r1 G1 => ∃ i ds0, x = .pk i ∧ r1[i]? = some (.own (.lst ds0)) ∧ WE X e r1 G1 fun y r2 G2 => ∃ d r3 ds, fz r2 y = some (d, r3) ∧ r3[i]? = some (.own (.lst ds)) ∧ MutW X id ds [d] fun res ds' => Q (.sh res) (r3.set i (.own (.lst ds'))) G2)
    (hbase : attributeBase o name X.env (eval o X.env) = eval o X.env := by rfl)
    (hfew : ((backTo cpos (starEach [e] X.env)).all (fun x => !x.1) && (backToKw cpos (keywordEach [] X.env)).all (fun x => x.1.isSome) && decide (([e] : List Expr).length + ([] : List Keyword).length + (if ([] : List Keyword).isEmpty then 0 else 1) < 30)) = true := by rfl)
    (hline : (apos.endLine == cpos.line) = true := by rfl) (hs : starEach [e] X.env = (false, eval e X.env) :: starEach [] X.env := by rfl) (hplain : (backTo cpos (starEach [] X.env)).any (·.1) = false := by rfl) :
    WE X (.Call (.Attribute o name apos) [e] [] cpos) r G Q := fun F0 T F H σ S =>
  Run.of (pe_bm pa slot hty mtU_ok peR (pa_cons peR pa_nil hs) hbase hfew hline hs hplain) ((h F0 T F H σ S).mono fun v H1 ⟨x, r1, G1, F1, e1, S1, k1, i, ds0, hx, hi0, h1⟩ => by
    subst hx
    obtain ⟨hv, _⟩ := k1
    obtain ⟨p, h1', ⟨vs, h2, h3⟩, _⟩ := S1.mut hi0
    rw [hv] at h1'; cases h1'
    refine ⟨.inl ⟨rfl, vs, .inl (.inl h2)⟩, (h1 F0 T F1 H1 σ S1).mono fun w H2 ⟨y, r2, G2, F2, e2, S2, k2, d, r3, ds, q1, q2, q3⟩ => ?_⟩
    obtain ⟨F3, e3, S3, rp⟩ := S2.fz k2 q1
    exact mut_end ((e1.trans e2).trans e3) S3 q2 hv (.one rp) q3)
theorem we_m0 {name : Str} {id : String} {Q : Res → Env2 → Hp → Prop} (pa : PlainAttrs "list") (slot : Slot "list" name id) (hty : typeOf (.builtin id) = pure (.type "method_descriptor"))
    (h : WE X o r G fun x r1 G1 => ∃ i ds, x = .pk i ∧ r1[i]? = some (.own (.lst ds)) ∧ MutW X id ds [] fun res ds' => Q (.sh res) (r1.set i (.own (.lst ds'))) G1)
    (hbase : attributeBase o name X.env (eval o X.env) = eval o X.env := by rfl) (hline : (apos.endLine == cpos.line) = true := by rfl) :
    WE X (.Call (.Attribute o name apos) [] [] cpos) r G Q := fun F0 T F H σ S =>
  Run.of (pe_bm0 pa slot hty mtU_ok peR hbase hline) ((h F0 T F H σ S).mono fun v H1 ⟨x, r1, G1, F1, e1, S1, k1, i, ds, hx, hi0, h1⟩ => by
    subst hx
    obtain ⟨hv, _⟩ := k1
    obtain ⟨p, h1', ⟨vs, h2, h3⟩, _⟩ := S1.mut hi0
    rw [hv] at h1'; cases h1'
    exact ⟨.inl ⟨rfl, vs, .inl (.inl h2)⟩, mut_end (args := []) e1 S1 hi0 hv rfl h1⟩)
theorem mw_append {ds : List D} {d : D} {Kt : D → List D → Prop} (hl : ds.length < LIM) (k : Kt .non (ds ++ [d])) : MutW X "list.append" ds [d] Kt := fun F H p vs us hp hf ex h1 h2 => by
  obtain ⟨v, u', rfl, h3, h4⟩ := h2
  cases (show u' = [] from h4)
  exact ⟨_, mt_append, p, vs, v, rfl, rfl, hp, by rw [h1.length]; exact lim_lt hl, vs ++ [v], .non, ds ++ [d], rfl, rfl, h1.append (.one h3), k⟩
theorem mw_extend {ds es : List D} {Kt : D → List D → Prop} (hl : ds.length + es.length ≤ LIM) (k : Kt .non (ds ++ es)) : MutW X "list.extend" ds [.lst es] Kt := fun F H p vs us hp hf ex h1 h2 => by
  obtain ⟨v, u', rfl, ⟨q, ws, rfl, h5, h6⟩, h4⟩ := h2
  cases (show u' = [] from h4)
  exact ⟨_, mt_extend, p, q, vs, ws, rfl, rfl, hp, ex _ _ h5, by rw [h1.length, h6.length]; exact lim_ok hl, vs ++ ws, .non, ds ++ es, rfl, rfl, h1.append h6, k⟩
theorem mw_popAt {ds : List D} {i : Nat} {d : D} {Kt : D → List D → Prop} (hi : ds[i]? = some d) (hl : ds.length ≤ LIM) (k : Kt d (ds.eraseIdx i)) : MutW X "list.pop" ds [.int (i : Nat)] Kt := fun F H p vs us hp hf ex h1 h2 => by
  obtain ⟨v, u', rfl, h3, h4⟩ := h2
  cases (show u' = [] from h4)
  cases (show v = .int (i : Nat) from h3)
  obtain ⟨w, k1, k2⟩ := h1.get hi
  have hlt : i < vs.length := (List.getElem?_eq_some_iff.mp k1).1
  have hlt2 : i < LIM := by rw [h1.length] at hlt; omega
  have hb : (i : Int) < 2 ^ 63 := by
    have : (LIM : Int) < 2 ^ 63 := by decide
    omega
  refine ⟨_, mt_popAt, p, vs, (i : Int), i, w, rfl, rfl, hp, by omega, hb, ?_, k1, vs.eraseIdx i, d, ds.eraseIdx i, rfl, k2, h1.eraseIdx i, k⟩
  unfold seqIndex?
  simp
  omega
theorem mw_pop {ds : List D} {d : D} {Kt : D → List D → Prop} (hi : ds[ds.length - 1]? = some d) (k : Kt d ds.dropLast) : MutW X "list.pop" ds [] Kt := fun F H p vs us hp hf ex h1 h2 => by
  cases (show us = [] from h2)
  obtain ⟨w, k1, k2⟩ := h1.get hi
  refine ⟨_, mt_pop, p, vs, w, rfl, rfl, hp, by rw [h1.length]; exact k1, vs.dropLast, d, ds.dropLast, rfl, k2, ?_, k⟩
  rw [List.dropLast_eq_take, List.dropLast_eq_take, h1.length]
  exact h1.take _
theorem we_append {Q : Res → Env2 → Hp → Prop}
    (h : WE X o r G fun x r1 G1 => ∃ i ds0, x = .pk i ∧ r1[i]? = some (.own (.lst ds0)) ∧ WE X e r1 G1 fun y r2 G2 => ∃ d r3 ds, fz r2 y = some (d, r3) ∧ r3[i]? = some (.own (.lst ds)) ∧ ds.length < LIM ∧ Q (.sh .non) (r3.set i (.own (.lst (ds ++ [d])))) G2)
    (hbase : attributeBase o "append" X.env (eval o X.env) = eval o X.env := by rfl)
    (hfew : ((backTo cpos (starEach [e] X.env)).all (fun x => !x.1) && (backToKw cpos (keywordEach [] X.env)).all (fun x => x.1.isSome) && decide (([e] : List Expr).length + ([] : List Keyword).length + (if ([] : List Keyword).isEmpty then 0 else 1) < 30)) = true := by rfl)
    (hline : (apos.endLine == cpos.line) = true := by rfl) (hs : starEach [e] X.env = (false, eval e X.env) :: starEach [] X.env := by rfl) (hplain : (backTo cpos (starEach [] X.env)).any (·.1) = false := by rfl) :
    WE X (.Call (.Attribute o "append" apos) [e] [] cpos) r G Q :=
  we_m1 PySem.F.plainAttrs_list PySem.F.slot_list_append PySem.F.type_list_append (h.mono fun x r1 G1 ⟨i, ds0, h1, h2, h3⟩ => ⟨i, ds0, h1, h2, h3.mono fun y r2 G2 ⟨d, r3, ds, k1, k2, k3, k4⟩ => ⟨d, r3, ds, k1, k2, mw_append k3 k4⟩⟩) hbase hfew hline hs hplain
theorem we_extend {Q : Res → Env2 → Hp → Prop}
    (h : WE X o r G fun x r1 G1 => ∃ i ds0, x = .pk i ∧ r1[i]? = some (.own (.lst ds0)) ∧ WE X e r1 G1 fun y r2 G2 => ∃ zs r3 ds, fz r2 y = some (.lst zs, r3) ∧ r3[i]? = some (.own (.lst ds)) ∧ ds.length + zs.length ≤ LIM ∧ Q (.sh .non) (r3.set i (.own (.lst (ds ++ zs)))) G2)
    (hbase : attributeBase o "extend" X.env (eval o X.env) = eval o X.env := by rfl)
    (hfew : ((backTo cpos (starEach [e] X.env)).all (fun x => !x.1) && (backToKw cpos (keywordEach [] X.env)).all (fun x => x.1.isSome) && decide (([e] : List Expr).length + ([] : List Keyword).length + (if ([] : List Keyword).isEmpty then 0 else 1) < 30)) = true := by rfl)
    (hline : (apos.endLine == cpos.line) = true := by rfl) (hs : starEach [e] X.env = (false, eval e X.env) :: starEach [] X.env := by rfl) (hplain : (backTo cpos (starEach [] X.env)).any (·.1) = false := by rfl) :
    WE X (.Call (.Attribute o "extend" apos) [e] [] cpos) r G Q :=
  we_m1 PySem.F.plainAttrs_list PySem.F.slot_list_extend PySem.F.type_list_extend (h.mono fun x r1 G1 ⟨i, ds0, h1, h2, h3⟩ => ⟨i, ds0, h1, h2, h3.mono fun y r2 G2 ⟨zs, r3, ds, k1, k2, k3, k4⟩ => ⟨.lst zs, r3, ds, k1, k2, mw_extend k3 k4⟩⟩) hbase hfew hline hs hplain
theorem we_popAt {Q : Res → Env2 → Hp → Prop}
    (h : WE X o r G fun x r1 G1 => ∃ i ds0, x = .pk i ∧ r1[i]? = some (.own (.lst ds0)) ∧ WE X e r1 G1 fun y r2 G2 => ∃ j r3 ds d, fz r2 y = some (.int (j : Nat), r3) ∧ r3[i]? = some (.own (.lst ds)) ∧ ds[j]? = some d ∧ ds.length ≤ LIM ∧ Q (.sh d) (r3.set i (.own (.lst (ds.eraseIdx j)))) G2)
    (hbase : attributeBase o "pop" X.env (eval o X.env) = eval o X.env := by rfl)
    (hfew : ((backTo cpos (starEach [e] X.env)).all (fun x => !x.1) && (backToKw cpos (keywordEach [] X.env)).all (fun x => x.1.isSome) && decide (([e] : List Expr).length + ([] : List Keyword).length + (if ([] : List Keyword).isEmpty then 0 else 1) < 30)) = true := by rfl)
    (hline : (apos.endLine == cpos.line) = true := by rfl) (hs : starEach [e] X.env = (false, eval e X.env) :: starEach [] X.env := by rfl) (hplain : (backTo cpos (starEach [] X.env)).any (·.1) = false := by rfl) :
    WE X (.Call (.Attribute o "pop" apos) [e] [] cpos) r G Q :=
  we_m1 PySem.F.plainAttrs_list PySem.F.slot_list_pop PySem.F.type_list_pop (h.mono fun x r1 G1 ⟨i, ds0, h1, h2, h3⟩ => ⟨i, ds0, h1, h2, h3.mono fun y r2 G2 ⟨j, r3, ds, d, k1, k2, k3, k4, k5⟩ => ⟨.int (j : Nat), r3, ds, k1, k2, mw_popAt k3 k4 k5⟩⟩) hbase hfew hline hs hplain
/-- a read-only method of a list with one argument -/
def MtW (X : Cx) (id : String) (dr da : D) (Q : Res → Prop) : Prop :=
  ∀ (F0 T F G H : Hp) (r : Env2) (σ : L2.St) (v w : V), Sta X.K F0 T F G H r σ → Vw X.K F H dr v → Vw X.K F H da w →
    ∃ rr, MtR X id rr ∧ rr v [w] H (fun v' H' => ∃ x F', Ex F F' ∧ Sta X.K F0 T F' G H' r σ ∧ ResOk X.K T F' G H' r σ x v' ∧ Q x)
theorem we_r1 {name : Str} {id : String} {Q : Res → Env2 → Hp → Prop} (pa : PlainAttrs "list") (slot : Slot "list" name id) (hty : typeOf (.builtin id) = pure (.type "method_descriptor"))
    (h : WE X o r G fun x r1 G1 => ∃ ds0, VwR r1 G1 x (.lst ds0) ∧ WE X e r1 G1 fun y r2 G2 => ∃ dr da, VwR r2 G2 x dr ∧ VwR r2 G2 y da ∧ MtW X id dr da fun z => Q z r2 G2)
    (hbase : attributeBase o name X.env (eval o X.env) = eval o X.env := by rfl)
    (hfew : ((backTo cpos (starEach [e] X.env)).all (fun x => !x.1) && (backToKw cpos (keywordEach [] X.env)).all (fun x => x.1.isSome) && decide (([e] : List Expr).length + ([] : List Keyword).length + (if ([] : List Keyword).isEmpty then 0 else 1) < 30)) = true := by rfl)
    (hline : (apos.endLine == cpos.line) = true := by rfl) (hs : starEach [e] X.env = (false, eval e X.env) :: starEach [] X.env := by rfl) (hplain : (backTo cpos (starEach [] X.env)).any (·.1) = false := by rfl) :
    WE X (.Call (.Attribute o name apos) [e] [] cpos) r G Q := fun F0 T F H σ S =>
  Run.of (pe_bm pa slot hty mtU_ok peR (pa_cons peR pa_nil hs) hbase hfew hline hs hplain) ((h F0 T F H σ S).mono fun v H1 ⟨x, r1, G1, F1, e1, S1, k1, ds0, hx, h1⟩ => by
    obtain ⟨p, vs, rfl, z1, _⟩ := (S1.viewR k1 hx).lst S1.bas.fh
    obtain ⟨F1', e1', S1', hv⟩ := hold S1 k1
    refine ⟨.inl ⟨rfl, vs, .inl (.inl z1)⟩, (h1 F0 T F1' H1 σ S1').mono fun w H2 ⟨y, r2, G2, F2, e2, S2, k2, dr, da, q1, q2, q3⟩ => ?_⟩
    obtain ⟨rr, h3, h4⟩ := q3 F0 T F2 G2 H2 r2 σ _ w S2 (hv F2 G2 H2 r2 dr e2 S2 q1) (S2.viewR k2 q2)
    exact ⟨_, MtR.post h3 _, h4, fun v H' ⟨z, F', m1, m2, m3, m4⟩ => ⟨z, r2, G2, F', ((e1.trans e1').trans e2).trans m1, m2, m3, m4⟩⟩)

/-! ### list comprehensions -/
def BlkX (X : Cx) (scope : Scope) (Y : Cx) : Prop := ∃ (s : Shared) (H : Hp) (C : Addr) (cl : List (Str × Addr)) (fp : List Addr), Y = X.blk s H scope (compEnvC scope cl C X.env) fp
theorem BlkX.k {scope : Scope} {Y : Cx} (h : BlkX X scope Y) : Y.K = X.K := by obtain ⟨_, _, _, _, _, rfl⟩ := h; rfl
def wipeD (r : Env2) : List Nat → Env2
  | [] => r
  | i :: is => (wipeD r is).set i .no
theorem wipeD_len (r : Env2) : ∀ is, (wipeD r is).length = r.length
  | [] => rfl
  | i :: is => by unfold wipeD; rw [List.length_set, wipeD_len r is]
theorem Sta.wipe {K : PySem.W.Frag} {F0 T F G H : Hp} {r : Env2} {σ σ' : L2.St} (S : Sta K F0 T F G H r σ') : ∀ (is : List Nat), L2.wipe σ' is = L2.wipe σ is → Sta K F0 T F G H (wipeD r is) (L2.wipe σ is) := by
  intro is e
  rw [← e]
  clear e
  have key : ∀ (is : List Nat) (i : Nat) (s : Sl), (wipeD r is)[i]? = some s → s = .no ∨ (r[i]? = some s ∧ (L2.wipe σ' is)[i]? = σ'[i]?) := by
    intro is
    induction is with
    | nil => intro i s h; exact .inr ⟨h, rfl⟩
    | cons j is ih =>
      intro i s h
      unfold wipeD at h
      unfold L2.wipe
      by_cases hj : j = i
      · subst hj
        by_cases hl : j < (wipeD r is).length
        · rw [List.getElem?_set_self hl] at h; left; cases h; rfl
        · rw [List.getElem?_eq_none (by rw [List.length_set]; omega)] at h; cases h
      · rw [List.getElem?_set_ne hj] at h ⊢
        exact ih i s h
  refine ⟨S.bas, by rw [wipeD_len, wipe_length]; exact S.len, fun i s h => ?_, fun i j d e' hij hi hj => ?_⟩
  · rcases key is i s h with z | ⟨z1, z2⟩
    · subst z; trivial
    · rw [z2]; exact S.sl i s z1
  · rcases key is i _ hi with z | ⟨z1, z2⟩
    · cases z
    · rcases key is j _ hj with y | ⟨y1, y2⟩
      · cases y
      · rw [z2, y2]; exact S.ap i j d e' hij z1 y1
/-- what is done in a comprehension's turn, over data -/
def LcTurn (X : Cx) (scope : Scope) (tg elt : Expr) (ifs : List Expr) (is : List Nat) (d : D) (acc : List D) (r : Env2) (G : Hp) (Nx : List D → Env2 → Hp → Prop) : Prop :=
  ∀ Y, BlkX X scope Y → WG Y tg d r G is fun r1 G1 => match ifs with
    | [] => ∀ Y, BlkX X scope Y → WE Y elt r1 G1 fun z r2 G2 => ∃ d' r3, fz r2 z = some (d', r3) ∧ acc.length < LIM ∧ Nx (acc ++ [d']) (wipeD r3 is) G2
    | [c] => ∀ Y, BlkX X scope Y → WT Y c r1 G1 fun b r2 G2 => (b = true → ∀ Y, BlkX X scope Y → WE Y elt r2 G2 fun z r3 G3 => ∃ d' r4, fz r3 z = some (d', r4) ∧ acc.length < LIM ∧ Nx (acc ++ [d']) (wipeD r4 is) G3) ∧ (b = false → Nx acc (wipeD r2 is) G2)
    | _ => False
/-- the readings of a block, over all its contexts -/
def blkG (X : Cx) (scope : Scope) (tg : Expr) : TG := fun v σ H Q => ∀ Y, BlkX X scope Y → RunG Y tg v σ H Q
def blkE (X : Cx) (scope : Scope) (e : Expr) : TE := fun σ H Q => ∀ Y, BlkX X scope Y → Run Y e σ H Q
def blkT (X : Cx) (scope : Scope) (ifs : List Expr) : TT := fun σ H Q => match ifs with
  | [] => Q true H
  | [c] => ∀ Y, BlkX X scope Y → RunT Y c σ H Q
  | _ => False
theorem blkT_ok {scope : Scope} {ifs : List Expr} (s : Shared) (H : Hp) (C : Addr) (cl : List (Str × Addr)) (fp : List Addr) : PTs (X.blk s H scope (compEnvC scope cl C X.env) fp) ifs (blkT X scope ifs) := by
  refine ⟨fun pins s' σ H' Q I h => ?_⟩
  match ifs, h with
  | [], h => exact pts_nil.run pins s' σ H' Q I h
  | [c], h => exact (pts_one ptR).run pins s' σ H' Q I (h _ ⟨s, H, C, cl, fp, rfl⟩)
  | _ :: _ :: _, h => exact h.elim
/-- one turn, over heaps -/
theorem lc_turn {scope : Scope} {elt : Expr} {ifs : List Expr} {is : List Nat} {d : D} {acc : List D} {Nx : List D → Env2 → Hp → Prop} {F0 T F H : Hp} {σ : L2.St} {v : V} {L : Addr} {us : List V}
    (S : Sta X.K F0 (upd T L (.lst us)) F G H r (L2.wipe σ is)) (hT : T L = none) (h0 : F0 L = none) (ha : RepL X.K F0 acc us) (rp : Rep X.K F d v) (h : LcTurn X scope tg elt ifs is d acc r G Nx) {Pn : Hp → Prop}
    (hN : ∀ acc' us' r' G' F' H', Nx acc' r' G' → RepL X.K F' acc' us' → Sta X.K F0 (upd T L (.lst us')) F' G' H' r' (L2.wipe σ is) → Pn H') :
    blkG X scope tg v (L2.wipe σ is) H fun σ2 H2 => L2.wipe σ2 is = L2.wipe σ is ∧ blkT X scope ifs σ2 H2 fun b H3 =>
      if b = true then blkE X scope elt σ2 H3 fun y H4 => ∃ acc', H4 L = some (.lst acc') ∧ acc'.length < sizeLine ∧ Pn (upd H4 L (.lst (acc' ++ [y]))) else Pn H3 := by
  have wi : L2.wipe (L2.wipe σ is) is = L2.wipe σ is := by
    have aux : ∀ (js : List Nat) (τ : L2.St), (∀ j ∈ js, ∀ x, τ[j]? = some x → x = none) → L2.wipe τ js = τ := by
      intro js
      induction js with
      | nil => intro τ _; rfl
      | cons j js ih =>
        intro τ hτ
        unfold L2.wipe
        rw [ih τ fun k hk => hτ k (List.mem_cons_of_mem _ hk)]
        refine List.ext_getElem? fun k => ?_
        by_cases hjk : j = k
        · subst hjk
          by_cases hl : j < τ.length
          · rw [List.getElem?_set_self hl]
            cases e : τ[j]? with
            | none => rw [List.getElem?_eq_none_iff] at e; omega
            | some x => rw [hτ j List.mem_cons_self x e]
          · rw [List.getElem?_eq_none (by rw [List.length_set]; omega), List.getElem?_eq_none (by omega)]
        · rw [List.getElem?_set_ne hjk]
    refine aux is _ fun j hj x hx => ?_
    cases x with
    | none => rfl
    | some y => exact absurd hj (wipe_some hx).2
  have fin : ∀ (F2 G2 H4 : Hp) (r2 r3 : Env2) (σ2 : L2.St) (z : Res) (y : V) (d' : D), L2.wipe σ2 is = L2.wipe σ is → Sta X.K F0 (upd T L (.lst us)) F2 G2 H4 r2 σ2 → ResOk X.K (upd T L (.lst us)) F2 G2 H4 r2 σ2 z y → fz r2 z = some (d', r3) → acc.length < LIM → Nx (acc ++ [d']) (wipeD r3 is) G2 →
      ∃ acc', H4 L = some (.lst acc') ∧ acc'.length < sizeLine ∧ Pn (upd H4 L (.lst (acc' ++ [y]))) := fun F2 G2 H4 r2 r3 σ2 z y d' hw S2 k2 q1 q2 q3 => by
    obtain ⟨F3, e3, S3, rp3⟩ := S2.fz k2 q1
    have hL : H4 L = some (.lst us) := S3.bas.tk L _ upd_same
    have ha3 : RepL X.K F3 acc us := RepL.mono S3.bas.ff _ _ ha
    have fL : F3 L = none := by
      cases e : F3 L with
      | none => rfl
      | some u =>
        rcases S3.bas.ft L u e with zz | zz
        · rw [h0] at zz; cases zz
        · rw [upd_same] at zz; cases zz
    have gL : G2 L = none := by
      cases e : G2 L with
      | none => rfl
      | some u => have zz := S3.bas.gt L u e; rw [upd_same] at zz; cases zz
    refine ⟨us, hL, by rw [ha3.length]; exact lim_lt q2, hN _ (us ++ [y]) _ G2 F3 _ q3 (ha3.append (.one rp3)) ?_⟩
    have Sw := S3.wipe is hw
    refine ⟨⟨Sw.bas.ff, fun q u hq => ?_, fun q u hq => ?_, fun q u hq => ?_, Sw.bas.fg, fun q u hq => ?_, fun q u hq => ?_⟩, Sw.len, fun i s hs => ?_, Sw.ap⟩
    · have hqL : q ≠ L := fun zz => by subst zz; rw [fL] at hq; cases hq
      have := Sw.bas.ft q u hq
      rw [upd_ne hqL] at this ⊢
      exact this
    · have hqL : q ≠ L := fun zz => by subst zz; rw [fL] at hq; cases hq
      rw [upd_ne hqL]; exact Sw.bas.fh q u hq
    · have hqL : q ≠ L := fun zz => by subst zz; rw [gL] at hq; cases hq
      rw [upd_ne hqL]; exact Sw.bas.gh q u hq
    · have hqL : q ≠ L := fun zz => by subst zz; rw [gL] at hq; cases hq
      have := Sw.bas.gt q u hq
      rw [upd_ne hqL] at this ⊢
      exact this
    · by_cases hqL : q = L
      · subst hqL; rw [upd_same] at hq ⊢; exact hq
      · rw [upd_ne hqL] at hq ⊢
        exact Sw.bas.tk q u (by rw [upd_ne hqL]; exact hq)
    · have hh := Sw.sl i s hs
      cases s with
      | no => trivial
      | sh d => exact hh
      | own d =>
        obtain ⟨p, k1, k3, k4, k5, k6⟩ := hh
        have hpL : p ≠ L := fun zz => by subst zz; rw [upd_same] at k6; cases k6
        rw [upd_ne hpL] at k6
        exact ⟨p, k1, k3.mono (Ex.refl _) (fun u hu => by rw [upd_ne hpL]; exact hu), k4, k5, by rw [upd_ne hpL]; exact k6⟩
  intro Y hY pins s u I rv
  have hYK : Y.K = X.K := hY.k
  have h' := h Y hY
  unfold WG at h'
  rw [hYK] at h'
  refine wpAny_mono (h' F0 (upd T L (.lst us)) F H (L2.wipe σ is) v S rp pins s u I rv) (fun _ s' ⟨σ', H', I', hw, r', G', F', e', S', q⟩ => ⟨σ', H', I', hw.trans wi, ?_⟩) fun _ _ x => x
  have hw' := hw.trans wi
  match ifs, q with
  | [], q =>
    unfold blkT
    dsimp only
    rw [if_pos rfl]
    intro Z hZ
    have q' := q Z hZ
    unfold WE at q'
    rw [hZ.k] at q'
    exact (q' F0 _ F' H' σ' S').mono fun y H4 ⟨z, r2, G2, F2, e2, S2, k2, d', r3, m1, m2, m3⟩ => fin F2 G2 H4 r2 r3 σ' z y d' hw' S2 k2 m1 m2 m3
  | [c], q =>
    intro Z hZ
    have q' := q Z hZ
    unfold WT at q'
    rw [hZ.k] at q'
    refine (q' F0 _ F' H' σ' S').mono fun b H3 ⟨r2, G2, F2, e2, S2, m1, m2⟩ => ?_
    cases b with
    | true =>
      rw [if_pos rfl]
      intro W hW
      have q2 := m1 rfl W hW
      unfold WE at q2
      rw [hW.k] at q2
      exact (q2 F0 _ F2 H3 σ' S2).mono fun y H4 ⟨z, r3, G3, F3, e3, S3, k3, d', r4, n1, n2, n3⟩ => fin F3 G3 H4 r3 r4 σ' z y d' hw' S3 k3 n1 n2 n3
    | false =>
      rw [if_neg Bool.false_ne_true]
      exact hN acc us _ G2 F2 H3 (m2 rfl) (RepL.mono S2.bas.ff _ _ ha) (S2.wipe is hw')
  | _ :: _ :: _, q => exact q.elim

/-- what a comprehension's loop keeps -/
def LcInv (K : PySem.W.Frag) (T Fa : Hp) (τ : L2.St) (L : Addr) (I : List D → Env2 → Hp → Prop) : Hp → Prop := fun H' =>
  ∃ acc us r' G' F', RepL K F' acc us ∧ Sta K Fa (upd T L (.lst us)) F' G' H' r' τ ∧ I acc r' G'
theorem lc_begin {K : PySem.W.Frag} {F0 T F H : Hp} {σ : L2.St} {is : List Nat} {L : Addr} {I : List D → Env2 → Hp → Prop} (S : Sta K F0 T F G H r σ) (hL : H L = none) (h0 : I [] (wipeD r is) G) : LcInv K T F (L2.wipe σ is) L I (upd H L (.lst [])) := by
  obtain ⟨f1, f2, f3⟩ := S.bas.freshF hL
  have Sb := (S.newH (o := .lst []) hL).base.wipe (σ := σ) is rfl
  refine ⟨[], [], _, G, F, rfl, ⟨⟨Sb.bas.ff, fun q u hq => .inl hq, Sb.bas.fh, Sb.bas.gh, Sb.bas.fg, fun q u hq => ?_, fun q u hq => ?_⟩, Sb.len, fun i s hs => ?_, Sb.ap⟩, h0⟩
  · have hq' : q ≠ L := fun z => by subst z; rw [f2] at hq; cases hq
    rw [upd_ne hq']; exact Sb.bas.gt q u hq
  · by_cases hq' : q = L
    · subst hq'; rw [upd_same] at hq ⊢; exact hq
    · rw [upd_ne hq'] at hq; exact Sb.bas.tk q u hq
  · have hh := Sb.sl i s hs
    cases s with
    | no => trivial
    | sh d => exact hh
    | own d =>
      obtain ⟨p, k1, k2, k3, k4, k5⟩ := hh
      have hp : p ≠ L := fun z => by
        subst z
        by_cases hi : i ∈ is
        · have : (L2.wipe σ is)[i]? ≠ some (some (V.ref p)) := fun z => (wipe_some z).2 hi
          exact this k1
        · have e := (wipe_some k1).1
          have hr : r[i]? = some (.own d) := by
            have aux : ∀ (js : List Nat), i ∉ js → (wipeD r js)[i]? = r[i]? := by
              intro js
              induction js with
              | nil => intro _; rfl
              | cons j js ih =>
                intro hj
                unfold wipeD
                rw [List.getElem?_set_ne (fun z => hj (by rw [z]; exact List.mem_cons_self)), ih (fun z => hj (List.mem_cons_of_mem _ z))]
            rw [aux is hi] at hs
            exact hs
          exact S.freshR hL i d hr e
      exact ⟨p, k1, k2, k3, k4, by rw [upd_ne hp]; exact k5⟩
theorem lc_end {K : PySem.W.Frag} {F0 T Fa Ga Ha H' : Hp} {σ : L2.St} {is : List Nat} {L : Addr} {I : List D → Env2 → Hp → Prop} {Q : Res → Env2 → Hp → Prop} (B : Bas F0 T Fa Ga Ha) (hL : Ha L = none) (hσ : Wk r (wipeD r is)) (S0 : Sta K F0 T Fa Ga Ha r σ) (h : LcInv K T Fa (L2.wipe σ is) L I H') (he : ∀ acc r' G', I acc r' G' → Q (.fr (.lst acc)) r' G') :
    PostE K F0 T Fa σ Q (.ref L) H' := by
  obtain ⟨acc, us, r', G', F', ha, S, q⟩ := h
  obtain ⟨f1, f2, f3⟩ := B.freshF hL
  have fL : F' L = none := by
    cases e : F' L with
    | none => rfl
    | some u =>
      rcases S.bas.ft L u e with zz | zz
      · rw [f1] at zz; cases zz
      · rw [upd_same] at zz; cases zz
  have gL : G' L = none := by
    cases e : G' L with
    | none => rfl
    | some u => have zz := S.bas.gt L u e; rw [upd_same] at zz; cases zz
  have tsub : ∀ q u, T q = some u → upd T L (.lst us) q = some u := fun q u hq => by
    have hqL : q ≠ L := fun zz => by subst zz; rw [f3] at hq; cases hq
    rw [upd_ne hqL]; exact hq
  have tdown : ∀ q, upd T L (.lst us) q = none → T q = none := fun q hq => by
    cases hf : T q with
    | none => rfl
    | some u => rw [tsub q u hf] at hq; cases hq
  have slots : ∀ (i : Nat) (s : Sl), r'[i]? = some s → SlotOk K T F' G' H' s σ[i]? := fun i s hs => by
    have hh := S.sl i s hs
    cases s with
    | no => trivial
    | sh d => obtain ⟨v, k1, k2⟩ := hh; exact ⟨v, (wipe_some k1).1, k2⟩
    | own d => obtain ⟨p, k1, k2, k3, k4, k5⟩ := hh; exact ⟨p, (wipe_some k1).1, k2, k3, k4, tdown p k5⟩
  have St : Sta K F0 T F' G' H' r' σ := by
    refine ⟨⟨B.ff.trans S.bas.ff, fun q u hq => ?_, S.bas.fh, S.bas.gh, S.bas.fg, fun q u hq => tdown q (S.bas.gt q u hq), fun q u hq => S.bas.tk q u (tsub q u hq)⟩, by rw [S.len, wipe_length], slots, fun i j d e hij hi hj z => ?_⟩
    · rcases S.bas.ft q u hq with zz | zz
      · exact B.ft q u zz
      · exact .inr (tdown q zz)
    · obtain ⟨p, k1, _⟩ := S.ownS hi
      obtain ⟨p2, m1, _⟩ := S.ownS hj
      refine S.ap i j d e hij hi hj ?_
      rw [(wipe_some k1).1, (wipe_some m1).1] at z
      rw [k1, m1, z]
  refine ⟨.fr (.lst acc), r', G', F', S.bas.ff, St, ⟨L, rfl, ⟨us, S.bas.tk L _ upd_same, ha⟩, fL, gL, f3, fun i d hi z => ?_⟩, he acc r' G' q⟩
  obtain ⟨p, k1, _, _, _, k5⟩ := S.ownS hi
  have e1 := (wipe_some k1).1
  rw [e1] at z; cases z
  rw [upd_same] at k5; cases k5
theorem wk_wipe (r : Env2) : ∀ is, Wk r (wipeD r is)
  | [] => Wk.refl r
  | i :: is => by
    have ih := wk_wipe r is
    unfold wipeD
    have aux : ∀ {a b : Env2}, Wk a b → ∀ i, Wk a (b.set i .no) := by
      intro a b w
      induction w with
      | nil => intro i; exact .nil
      | no w ih =>
        intro i
        cases i with
        | zero => exact .no w
        | succ i => exact .no (ih i)
      | eq w ih =>
        intro i
        cases i with
        | zero => exact .no w
        | succ i => exact .eq (ih i)
    exact aux ih i
/-- one step of a comprehension over items -/
theorem lc_step {scope : Scope} {elt : Expr} {ifs : List Expr} {is : List Nat} {d : D} {T Fa : Hp} {H' : Hp} {σ : L2.St} {v : V} {L : Addr} {I J : List D → Env2 → Hp → Prop} (hL : Fa L = none) (hT : T L = none) (h : LcInv X.K T Fa (L2.wipe σ is) L I H') (rp : Rep X.K Fa d v)
    (hs : ∀ acc r' G', I acc r' G' → LcTurn X scope tg elt ifs is d acc r' G' J) :
    blkG X scope tg v (L2.wipe σ is) H' fun σ2 H2 => L2.wipe σ2 is = L2.wipe σ is ∧ blkT X scope ifs σ2 H2 fun b H3 =>
      if b = true then blkE X scope elt σ2 H3 fun y H4 => ∃ acc', H4 L = some (.lst acc') ∧ acc'.length < sizeLine ∧ LcInv X.K T Fa (L2.wipe σ is) L J (upd H4 L (.lst (acc' ++ [y]))) else LcInv X.K T Fa (L2.wipe σ is) L J H3 := by
  obtain ⟨acc, us, r', G', F', ha, S, q⟩ := h
  have fL : F' L = none := by
    cases e : F' L with
    | none => rfl
    | some u =>
      rcases S.bas.ft L u e with zz | zz
      · rw [hL] at zz; cases zz
      · rw [upd_same] at zz; cases zz
  refine lc_turn S.base hT fL ha (Rep.mono S.bas.ff _ _ rp) (hs acc r' G' q) fun acc' us' r2 G2 F2 H2 q2 ha2 S2 => ?_
  have gL : G2 L = none := by
    cases e : G2 L with
    | none => rfl
    | some u => have zz := S2.bas.gt L u e; rw [upd_same] at zz; cases zz
  refine ⟨acc', us', r2, G2, F2, ha2, ⟨⟨S.bas.ff.trans S2.bas.ff, fun q u hq => ?_, S2.bas.fh, S2.bas.gh, S2.bas.fg, S2.bas.gt, S2.bas.tk⟩, S2.len, S2.sl, S2.ap⟩, q2⟩
  rcases S2.bas.ft q u hq with zz | zz
  · rcases S.bas.ft q u zz with yy | yy
    · exact .inl yy
    · by_cases hqL : q = L
      · subst hqL; rw [fL] at zz; cases zz
      · rw [upd_ne hqL] at yy ⊢; exact .inr yy
  · exact .inr zz
/-- [elt for tg in e if ..], over a list -/
theorem lcL {scope : Scope} {elt : Expr} {ifs : List Expr} {own : List (Str × Nat)} {Q : Res → Env2 → Hp → Prop} {F0 T F H : Hp} {σ : L2.St} (S : Sta X.K F0 T F G H r σ)
    (h : WE X e r G fun x r1 G1 => ∃ ds r2, fz r1 x = some (.lst ds, r2) ∧ ∃ I : Nat → List D → Env2 → Hp → Prop, I 0 [] (wipeD r2 (own.map (·.2))) G1 ∧ (∀ (k : Nat) (d : D) (acc : List D) (r3 : Env2) (G3 : Hp), ds[k]? = some d → I k acc r3 G3 → LcTurn X scope tg elt ifs (own.map (·.2)) d acc r3 G3 (I (k + 1))) ∧
      ∀ acc r3 G3, I ds.length acc r3 G3 → Q (.fr (.lst acc)) r3 G3) : tLc (iList X.K (Run X e)) (blkG X scope tg) (blkT X scope ifs) (blkE X scope elt) (own.map (·.2)) σ H (PostE X.K F0 T F σ Q) := by
  refine (h F0 T F H σ S).mono fun v H1 ⟨x, r1, G1, F1, e1, S1, k1, ds, r2, q1, I, i0, it, ie⟩ => ?_
  obtain ⟨Fa, e2, Sa, rp⟩ := S1.fz k1 q1
  obtain ⟨a, vs, rfl, z1, z2⟩ := rp
  refine ⟨a, rfl, ⟨vs, .inl (.inl (Sa.bas.fh _ _ z1))⟩, fun L hL => ?_⟩
  obtain ⟨f1, f2, f3⟩ := Sa.bas.freshF hL
  refine lc_list (xs := vs) (fun k H' => LcInv X.K T Fa (L2.wipe σ (own.map (·.2))) L (I k) H') (lc_begin Sa hL i0) (fun k H' _ ⟨_, _, _, _, _, _, S', _⟩ => .inl (.inl (S'.bas.fh _ _ (S'.bas.ff _ _ z1)))) (fun k x' H' hx hI => ?_) fun H' hI => ?_
  · obtain ⟨d, hd, rd⟩ := z2.getV hx
    exact lc_step f1 f3 hI rd fun acc r' G' q => it k d acc r' G' hd q
  · rw [z2.length] at hI
    exact (lc_end Sa.bas hL (wk_wipe _ _) Sa hI fun acc r' G' q => ie acc r' G' q).ext (e1.trans e2)
theorem lcT {scope : Scope} {elt : Expr} {ifs : List Expr} {own : List (Str × Nat)} {Q : Res → Env2 → Hp → Prop} {F0 T F H : Hp} {σ : L2.St} (S : Sta X.K F0 T F G H r σ)
    (h : WE X e r G fun x r1 G1 => ∃ ds r2, fz r1 x = some (.tup ds, r2) ∧ ∃ I : Nat → List D → Env2 → Hp → Prop, I 0 [] (wipeD r2 (own.map (·.2))) G1 ∧ (∀ (k : Nat) (d : D) (acc : List D) (r3 : Env2) (G3 : Hp), ds[k]? = some d → I k acc r3 G3 → LcTurn X scope tg elt ifs (own.map (·.2)) d acc r3 G3 (I (k + 1))) ∧
      ∀ acc r3 G3, I ds.length acc r3 G3 → Q (.fr (.lst acc)) r3 G3) : tLc (iTup X.K (Run X e)) (blkG X scope tg) (blkT X scope ifs) (blkE X scope elt) (own.map (·.2)) σ H (PostE X.K F0 T F σ Q) := by
  refine (h F0 T F H σ S).mono fun v H1 ⟨x, r1, G1, F1, e1, S1, k1, ds, r2, q1, I, i0, it, ie⟩ => ?_
  obtain ⟨Fa, e2, Sa, rp⟩ := S1.fz k1 q1
  obtain ⟨a, vs, rfl, z1, z2⟩ := rp
  refine ⟨a, rfl, ⟨vs, Sa.bas.fh.sqT z1⟩, fun L hL => ?_⟩
  obtain ⟨f1, f2, f3⟩ := Sa.bas.freshF hL
  refine lc_tup (xs := vs) (fun k H' => LcInv X.K T Fa (L2.wipe σ (own.map (·.2))) L (I k) H') (lc_begin Sa hL i0) (fun k H' _ ⟨_, _, _, _, _, _, S', _⟩ => S'.bas.fh.sqT (S'.bas.ff.sqT z1)) (fun k x' H' hx hI => ?_) fun H' hI => ?_
  · obtain ⟨d, hd, rd⟩ := z2.getV hx
    exact lc_step f1 f3 hI rd fun acc r' G' q => it k d acc r' G' hd q
  · rw [z2.length] at hI
    exact (lc_end Sa.bas hL (wk_wipe _ _) Sa hI fun acc r' G' q => ie acc r' G' q).ext (e1.trans e2)
theorem lcR {scope : Scope} {elt : Expr} {ifs : List Expr} {own : List (Str × Nat)} {Q : Res → Env2 → Hp → Prop} {F0 T F H : Hp} {σ : L2.St} (S : Sta X.K F0 T F G H r σ)
    (h : WE X a r G fun x r1 G1 => ∃ n, vw r1 x = some (.int n) ∧ (-(2 ^ 62) ≤ n ∧ n < 2 ^ 62) ∧ ∃ I : Nat → List D → Env2 → Hp → Prop, I 0 [] (wipeD r1 (own.map (·.2))) G1 ∧ (∀ (k : Nat) (acc : List D) (r3 : Env2) (G3 : Hp), (k : Int) < n → I k acc r3 G3 → LcTurn X scope tg elt ifs (own.map (·.2)) (.int (k : Nat)) acc r3 G3 (I (k + 1))) ∧
      ∀ acc r3 G3, I n.toNat acc r3 G3 → Q (.fr (.lst acc)) r3 G3) : tLc (iRng1 (tCons (Run X a) tNil)) (blkG X scope tg) (blkT X scope ifs) (blkE X scope elt) (own.map (·.2)) σ H (PostE X.K F0 T F σ Q) := by
  refine (h F0 T F H σ S).mono fun v H1 ⟨x, r1, G1, F1, e1, S1, k1, n, q1, hn, I, i0, it, ie⟩ => ?_
  refine ⟨n, by rw [(S1.view k1 q1).int], hn.1, hn.2, fun L hL => ?_⟩
  obtain ⟨f1, f2, f3⟩ := S1.bas.freshF hL
  refine lc_range (lo := 0) (n := n.toNat) (fun k H' => LcInv X.K T F1 (L2.wipe σ (own.map (·.2))) L (I k) H') (lc_begin S1 hL i0) (fun k H' hk hI => ?_) fun H' hI => ?_
  · have e0 : (0 : Int) + ((k : Nat) : Int) = ((k : Nat) : Int) := Int.zero_add _
    rw [e0]
    exact lc_step (d := .int (k : Nat)) f1 f3 hI rfl fun acc r' G' q => it k acc r' G' (by omega) q
  · exact (lc_end S1.bas hL (wk_wipe _ _) S1 hI fun acc r' G' q => ie acc r' G' q).ext e1
theorem lcR2 {scope : Scope} {elt : Expr} {ifs : List Expr} {own : List (Str × Nat)} {Q : Res → Env2 → Hp → Prop} {F0 T F H : Hp} {σ : L2.St} (S : Sta X.K F0 T F G H r σ)
    (h : WE X a r G fun x r1 G1 => WE X b r1 G1 fun y r2 G2 => ∃ lo n, vw r2 x = some (.int lo) ∧ vw r2 y = some (.int n) ∧ ((-(2 ^ 62) ≤ lo ∧ lo < 2 ^ 62) ∧ -(2 ^ 62) ≤ n ∧ n < 2 ^ 62) ∧ ∃ I : Nat → List D → Env2 → Hp → Prop, I 0 [] (wipeD r2 (own.map (·.2))) G2 ∧ (∀ (k : Nat) (acc : List D) (r3 : Env2) (G3 : Hp), lo + (k : Int) < n → I k acc r3 G3 → LcTurn X scope tg elt ifs (own.map (·.2)) (.int (lo + (k : Nat))) acc r3 G3 (I (k + 1))) ∧
      ∀ acc r3 G3, I (n - lo).toNat acc r3 G3 → Q (.fr (.lst acc)) r3 G3) : tLc (iRng2 (tCons (Run X a) (tCons (Run X b) tNil))) (blkG X scope tg) (blkT X scope ifs) (blkE X scope elt) (own.map (·.2)) σ H (PostE X.K F0 T F σ Q) := by
  refine (h F0 T F H σ S).mono fun v H1 ⟨x, r1, G1, F1, e1, S1, k1, h1⟩ => ?_
  obtain ⟨F1', e1', S1', hv⟩ := hold S1 k1
  refine (h1 F0 T F1' H1 σ S1').mono fun v2 H2 ⟨y, r2, G2, F2, e2, S2, k2, lo, n, q1, q2, hn, I, i0, it, ie⟩ => ?_
  refine ⟨lo, n, by rw [(hv F2 G2 H2 r2 _ e2 S2 (.inl q1)).int, (S2.view k2 q2).int], ⟨hn.1.1, hn.1.2, hn.2.1, hn.2.2⟩, fun L hL => ?_⟩
  obtain ⟨f1, f2, f3⟩ := S2.bas.freshF hL
  refine lc_range (lo := lo) (n := (n - lo).toNat) (fun k H' => LcInv X.K T F2 (L2.wipe σ (own.map (·.2))) L (I k) H') (lc_begin S2 hL i0) (fun k H' hk hI => ?_) fun H' hI => ?_
  · exact lc_step (d := .int (lo + (k : Nat))) f1 f3 hI rfl fun acc r' G' q => it k acc r' G' (by omega) q
  · exact (lc_end S2.bas hL (wk_wipe _ _) S2 hI fun acc r' G' q => ie acc r' G' q).ext ((e1.trans e1').trans e2)
theorem blkG_ok {scope : Scope} (s : Shared) (H : Hp) (C : Addr) (cl : List (Str × Addr)) (fp : List Addr) : PG (X.blk s H scope (compEnvC scope cl C X.env) fp) tg (blkG X scope tg) :=
  ⟨fun pins s' σ H' v u Q I rv h => h _ ⟨s, H, C, cl, fp, rfl⟩ pins s' u I rv⟩
theorem blkE_ok {scope : Scope} {elt : Expr} (s : Shared) (H : Hp) (C : Addr) (cl : List (Str × Addr)) (fp : List Addr) : PE (X.blk s H scope (compEnvC scope cl C X.env) fp) elt (blkE X scope elt) :=
  ⟨fun pins s' σ H' Q I h => h _ ⟨s, H, C, cl, fp, rfl⟩ pins s' I⟩
theorem we_lcL {scope : Scope} {elt : Expr} {ifs : List Expr} (own : List (Str × Nat)) {Q : Res → Env2 → Hp → Prop} (hc : X.calm = true) (hN : X.N.Nodup) (ok : BlkOk X.N X.env.scope scope own)
    (h : WE X e r G fun x r1 G1 => ∃ ds r2, fz r1 x = some (.lst ds, r2) ∧ ∃ I : Nat → List D → Env2 → Hp → Prop, I 0 [] (wipeD r2 (own.map (·.2))) G1 ∧ (∀ (k : Nat) (d : D) (acc : List D) (r3 : Env2) (G3 : Hp), ds[k]? = some d → I k acc r3 G3 → LcTurn X scope tg elt ifs (own.map (·.2)) d acc r3 G3 (I (k + 1))) ∧
      ∀ acc r3 G3, I ds.length acc r3 G3 → Q (.fr (.lst acc)) r3 G3) (hs : ∀ x, foldedSetIterable e X.env x = pure x := by intro _; rfl) : WE X (.ListComp elt [⟨tg, e, ifs, 0⟩] scope pos) r G Q := fun F0 T F H σ S =>
  Run.of (pe_lc hc hN (pi_list peR) ok blkG_ok blkT_ok blkE_ok hs) (lcL S h)
theorem we_lcT {scope : Scope} {elt : Expr} {ifs : List Expr} (own : List (Str × Nat)) {Q : Res → Env2 → Hp → Prop} (hc : X.calm = true) (hN : X.N.Nodup) (ok : BlkOk X.N X.env.scope scope own)
    (h : WE X e r G fun x r1 G1 => ∃ ds r2, fz r1 x = some (.tup ds, r2) ∧ ∃ I : Nat → List D → Env2 → Hp → Prop, I 0 [] (wipeD r2 (own.map (·.2))) G1 ∧ (∀ (k : Nat) (d : D) (acc : List D) (r3 : Env2) (G3 : Hp), ds[k]? = some d → I k acc r3 G3 → LcTurn X scope tg elt ifs (own.map (·.2)) d acc r3 G3 (I (k + 1))) ∧
      ∀ acc r3 G3, I ds.length acc r3 G3 → Q (.fr (.lst acc)) r3 G3) (hs : ∀ x, foldedSetIterable e X.env x = pure x := by intro _; rfl) : WE X (.ListComp elt [⟨tg, e, ifs, 0⟩] scope pos) r G Q := fun F0 T F H σ S =>
  Run.of (pe_lc hc hN (pi_tup peR) ok blkG_ok blkT_ok blkE_ok hs) (lcT S h)
theorem we_lcR {scope : Scope} {elt : Expr} {ifs : List Expr} (own : List (Str × Nat)) {Q : Res → Env2 → Hp → Prop} {rp : Pos} (hc : X.calm = true) (hN : X.N.Nodup) (ok : BlkOk X.N X.env.scope scope own) (hg : Gl X "range") (hm : X.mg "range" = none)
    (h : WE X a r G fun x r1 G1 => ∃ n, vw r1 x = some (.int n) ∧ (-(2 ^ 62) ≤ n ∧ n < 2 ^ 62) ∧ ∃ I : Nat → List D → Env2 → Hp → Prop, I 0 [] (wipeD r1 (own.map (·.2))) G1 ∧ (∀ (k : Nat) (acc : List D) (r3 : Env2) (G3 : Hp), (k : Int) < n → I k acc r3 G3 → LcTurn X scope tg elt ifs (own.map (·.2)) (.int (k : Nat)) acc r3 G3 (I (k + 1))) ∧
      ∀ acc r3 G3, I n.toNat acc r3 G3 → Q (.fr (.lst acc)) r3 G3) (hst : starEach [a] X.env = [(false, eval a X.env)] := by rfl) (hs : ∀ x, foldedSetIterable (.Call (.Name "range" p0) [a] [] rp) X.env x = pure x := by intro _; rfl) :
    WE X (.ListComp elt [⟨tg, .Call (.Name "range" p0) [a] [] rp, ifs, 0⟩] scope pos) r G Q := fun F0 T F H σ S =>
  Run.of (pe_lc hc hN (pi_range1 hg hm (pa_cons peR pa_nil hst) hst) ok blkG_ok blkT_ok blkE_ok hs) (lcR S h)
theorem we_lcR2 {scope : Scope} {elt : Expr} {ifs : List Expr} (own : List (Str × Nat)) {Q : Res → Env2 → Hp → Prop} {rp : Pos} (hc : X.calm = true) (hN : X.N.Nodup) (ok : BlkOk X.N X.env.scope scope own) (hg : Gl X "range") (hm : X.mg "range" = none)
    (h : WE X a r G fun x r1 G1 => WE X b r1 G1 fun y r2 G2 => ∃ lo n, vw r2 x = some (.int lo) ∧ vw r2 y = some (.int n) ∧ ((-(2 ^ 62) ≤ lo ∧ lo < 2 ^ 62) ∧ -(2 ^ 62) ≤ n ∧ n < 2 ^ 62) ∧ ∃ I : Nat → List D → Env2 → Hp → Prop, I 0 [] (wipeD r2 (own.map (·.2))) G2 ∧ (∀ (k : Nat) (acc : List D) (r3 : Env2) (G3 : Hp), lo + (k : Int) < n → I k acc r3 G3 → LcTurn X scope tg elt ifs (own.map (·.2)) (.int (lo + (k : Nat))) acc r3 G3 (I (k + 1))) ∧
      ∀ acc r3 G3, I (n - lo).toNat acc r3 G3 → Q (.fr (.lst acc)) r3 G3) (hst : starEach [a, b] X.env = [(false, eval a X.env), (false, eval b X.env)] := by rfl) (hst2 : starEach [b] X.env = [(false, eval b X.env)] := by rfl) (hs : ∀ x, foldedSetIterable (.Call (.Name "range" p0) [a, b] [] rp) X.env x = pure x := by intro _; rfl) :
    WE X (.ListComp elt [⟨tg, .Call (.Name "range" p0) [a, b] [] rp, ifs, 0⟩] scope pos) r G Q := fun F0 T F H σ S =>
  Run.of (pe_lc hc hN (pi_range2 hg hm (pa_cons peR (pa_cons peR pa_nil (by rw [hst2]; rfl)) (by rw [hst, hst2])) hst hst2) ok blkG_ok blkT_ok blkE_ok hs) (lcR2 S h)
/-- y = [..] -/
theorem lc_store {wi : TI} {scope : Scope} {elt : Expr} {ifs : List Expr} {own : List (Str × Nat)} {i : Nat} {F0 T F H : Hp} {σ : L2.St}
    (h : tLc wi (blkG X scope tg) (blkT X scope ifs) (blkE X scope elt) (own.map (·.2)) σ H (PostE X.K F0 T F σ fun y r1 G1 => i < r1.length ∧ ∃ r2, putS r1 i y = some r2 ∧ D0.nx r2 G1))
    (mono : ∀ (Q Q' : VK), (∀ v H, Q v H → Q' v H) → tLc wi (blkG X scope tg) (blkT X scope ifs) (blkE X scope elt) (own.map (·.2)) σ H Q → tLc wi (blkG X scope tg) (blkT X scope ifs) (blkE X scope elt) (own.map (·.2)) σ H Q') :
    tAsg (tLc wi (blkG X scope tg) (blkT X scope ifs) (blkE X scope elt) (own.map (·.2))) (gName i) (D0.at X.K F0 T) σ H :=
  mono _ _ (fun v H1 ⟨y, r1, G1, F1, e1, S1, k1, hi, r2, q1, q2⟩ => by
    obtain ⟨F2, e2, S2⟩ := S1.putS k1 hi q1
    exact ⟨r2, G1, F2, S2, q2⟩) h
theorem lc_mono {wi : TI} {g : TG} {tt : TT} {te : TE} {vs : List Nat} {σ : L2.St} {H : Hp} (hw : ∀ (R R' : It → Hp → Prop), (∀ J H, R J H → R' J H) → wi σ H R → wi σ H R') (Q Q' : VK) (k : ∀ v H, Q v H → Q' v H) (h : tLc wi g tt te vs σ H Q) : tLc wi g tt te vs σ H Q' := by
  refine hw _ _ (fun J H1 h1 L hL => ?_) h
  obtain ⟨W, w0, ws⟩ := h1 L hL
  exact ⟨W, w0, fun i m H hW => (ws i m H hW).imp (fun ⟨z1, z2⟩ => ⟨z1, k _ _ z2⟩) id⟩
theorem ws_setLcL {scope : Scope} {elt : Expr} {ifs : List Expr} (own : List (Str × Nat)) (i : Nat) {y : Str} {py spos : Pos} (hc : X.calm = true) (hN : X.N.Nodup) (hy : X.N[i]? = some y) (hyl : X.env.scope.names.lookup y = some .local)
    (hsw : swapsWith (.ListComp elt [⟨tg, e, ifs, 0⟩] scope pos) (some (.Name y py)) spos.line X.env = pure true) (ok : BlkOk X.N X.env.scope scope own)
    (h : WE X e r G fun x r1 G1 => ∃ ds r2, fz r1 x = some (.lst ds, r2) ∧ ∃ I : Nat → List D → Env2 → Hp → Prop, I 0 [] (wipeD r2 (own.map (·.2))) G1 ∧ (∀ (k : Nat) (d : D) (acc : List D) (r3 : Env2) (G3 : Hp), ds[k]? = some d → I k acc r3 G3 → LcTurn X scope tg elt ifs (own.map (·.2)) d acc r3 G3 (I (k + 1))) ∧
      ∀ acc r3 G3, I ds.length acc r3 G3 → i < r3.length ∧ D0.nx (r3.set i (.own (.lst acc))) G3) (hs : ∀ x, foldedSetIterable e X.env x = pure x := by intro _; rfl) : WS X (.Assign [.Name y py] (.ListComp elt [⟨tg, e, ifs, 0⟩] scope pos) spos) r G D0 := fun F0 T F H σ S =>
  RunS.of (ps_setLc hc hN hy hyl hsw (pi_list peR) ok blkG_ok blkT_ok blkE_ok hs) (lc_store (lcL S (h.mono fun x r1 G1 ⟨ds, r2, k1, I, k2, k3, k4⟩ => ⟨ds, r2, k1, I, k2, k3, fun acc r3 G3 q => ⟨(k4 acc r3 G3 q).1, _, rfl, (k4 acc r3 G3 q).2⟩⟩)) (lc_mono fun R R' k q => Run.mono q fun v H ⟨a, z1, z2, z3⟩ => ⟨a, z1, z2, k _ _ z3⟩))
theorem ws_setLcT {scope : Scope} {elt : Expr} {ifs : List Expr} (own : List (Str × Nat)) (i : Nat) {y : Str} {py spos : Pos} (hc : X.calm = true) (hN : X.N.Nodup) (hy : X.N[i]? = some y) (hyl : X.env.scope.names.lookup y = some .local)
    (hsw : swapsWith (.ListComp elt [⟨tg, e, ifs, 0⟩] scope pos) (some (.Name y py)) spos.line X.env = pure true) (ok : BlkOk X.N X.env.scope scope own)
    (h : WE X e r G fun x r1 G1 => ∃ ds r2, fz r1 x = some (.tup ds, r2) ∧ ∃ I : Nat → List D → Env2 → Hp → Prop, I 0 [] (wipeD r2 (own.map (·.2))) G1 ∧ (∀ (k : Nat) (d : D) (acc : List D) (r3 : Env2) (G3 : Hp), ds[k]? = some d → I k acc r3 G3 → LcTurn X scope tg elt ifs (own.map (·.2)) d acc r3 G3 (I (k + 1))) ∧
      ∀ acc r3 G3, I ds.length acc r3 G3 → i < r3.length ∧ D0.nx (r3.set i (.own (.lst acc))) G3) (hs : ∀ x, foldedSetIterable e X.env x = pure x := by intro _; rfl) : WS X (.Assign [.Name y py] (.ListComp elt [⟨tg, e, ifs, 0⟩] scope pos) spos) r G D0 := fun F0 T F H σ S =>
  RunS.of (ps_setLc hc hN hy hyl hsw (pi_tup peR) ok blkG_ok blkT_ok blkE_ok hs) (lc_store (lcT S (h.mono fun x r1 G1 ⟨ds, r2, k1, I, k2, k3, k4⟩ => ⟨ds, r2, k1, I, k2, k3, fun acc r3 G3 q => ⟨(k4 acc r3 G3 q).1, _, rfl, (k4 acc r3 G3 q).2⟩⟩)) (lc_mono fun R R' k q => Run.mono q fun v H ⟨a, z1, z2, z3⟩ => ⟨a, z1, z2, k _ _ z3⟩))
theorem ws_setLcR {scope : Scope} {elt : Expr} {ifs : List Expr} (own : List (Str × Nat)) (i : Nat) {y : Str} {py spos rp : Pos} (hc : X.calm = true) (hN : X.N.Nodup) (hy : X.N[i]? = some y) (hyl : X.env.scope.names.lookup y = some .local)
    (hsw : swapsWith (.ListComp elt [⟨tg, .Call (.Name "range" p0) [a] [] rp, ifs, 0⟩] scope pos) (some (.Name y py)) spos.line X.env = pure true) (ok : BlkOk X.N X.env.scope scope own) (hg : Gl X "range") (hm : X.mg "range" = none)
    (h : WE X a r G fun x r1 G1 => ∃ n, vw r1 x = some (.int n) ∧ (-(2 ^ 62) ≤ n ∧ n < 2 ^ 62) ∧ ∃ I : Nat → List D → Env2 → Hp → Prop, I 0 [] (wipeD r1 (own.map (·.2))) G1 ∧ (∀ (k : Nat) (acc : List D) (r3 : Env2) (G3 : Hp), (k : Int) < n → I k acc r3 G3 → LcTurn X scope tg elt ifs (own.map (·.2)) (.int (k : Nat)) acc r3 G3 (I (k + 1))) ∧
      ∀ acc r3 G3, I n.toNat acc r3 G3 → i < r3.length ∧ D0.nx (r3.set i (.own (.lst acc))) G3) (hst : starEach [a] X.env = [(false, eval a X.env)] := by rfl) (hs : ∀ x, foldedSetIterable (.Call (.Name "range" p0) [a] [] rp) X.env x = pure x := by intro _; rfl) : WS X (.Assign [.Name y py] (.ListComp elt [⟨tg, .Call (.Name "range" p0) [a] [] rp, ifs, 0⟩] scope pos) spos) r G D0 := fun F0 T F H σ S =>
  RunS.of (ps_setLc hc hN hy hyl hsw (pi_range1 hg hm (pa_cons peR pa_nil hst) hst) ok blkG_ok blkT_ok blkE_ok hs) (lc_store (lcR S (h.mono fun x r1 G1 ⟨n, k0, k1, I, k2, k3, k4⟩ => ⟨n, k0, k1, I, k2, k3, fun acc r3 G3 q => ⟨(k4 acc r3 G3 q).1, _, rfl, (k4 acc r3 G3 q).2⟩⟩)) (lc_mono fun R R' k q => Run.mono q fun v H ⟨j, z1, z2, z3, z4⟩ => ⟨j, z1, z2, z3, k _ _ z4⟩))
end


/-! ### the open region -/
theorem Sta.gput {K : PySem.W.Frag} {F0 T F G H : Hp} {r : Env2} {σ : L2.St} (S : Sta K F0 T F G H r σ) {b : Addr} {o : HO} (hG : G b = some o) (o' : HO) : Sta K F0 T F (upd G b o') (upd H b o') r σ := by
  have f1 := S.bas.fg _ _ hG
  have f2 := S.bas.gt _ _ hG
  refine ⟨⟨S.bas.ff, S.bas.ft, fun a u e => ?_, fun a u e => ?_, fun a u e => ?_, fun a u e => ?_, fun a u e => ?_⟩, S.len, fun i s e => ?_, S.ap⟩
  · rw [upd_ne (ne_of_none e f1)]; exact S.bas.fh a u e
  · by_cases h : a = b
    · subst h; rw [upd_same] at e ⊢; exact e
    · rw [upd_ne h] at e ⊢; exact S.bas.gh a u e
  · by_cases h : a = b
    · subst h; exact f1
    · rw [upd_ne h] at e; exact S.bas.fg a u e
  · by_cases h : a = b
    · subst h; exact f2
    · rw [upd_ne h] at e; exact S.bas.gt a u e
  · rw [upd_ne (ne_of_none e f2)]; exact S.bas.tk a u e
  · have q := S.sl i s e
    cases s with
    | no => trivial
    | sh d => exact q
    | own d =>
      obtain ⟨p, q1, q2, q3, q4, q5⟩ := q
      have hp : p ≠ b := fun z => by subst z; rw [q4] at hG; cases hG
      exact ⟨p, q1, q2.mono (Ex.refl _) (fun u hu => by rw [upd_ne hp]; exact hu), q3, by rw [upd_ne hp]; exact q4, q5⟩
/-- a new object of the open region -/
theorem Sta.gnew {K : PySem.W.Frag} {F0 T F G H : Hp} {r : Env2} {σ : L2.St} (S : Sta K F0 T F G H r σ) {p : Addr} {d : D} {o : HO} (h : ResOk K T F G H r σ (.fr d) (.ref p)) (ho : H p = some o) : Sta K F0 T F (upd G p o) H r σ := by
  obtain ⟨p', e, h2, h3, h4, h5, h6⟩ := h
  cases e
  refine ⟨⟨S.bas.ff, S.bas.ft, S.bas.fh, fun a u e => ?_, fun a u e => ?_, fun a u e => ?_, S.bas.tk⟩, S.len, fun i s e => ?_, S.ap⟩
  · by_cases h : a = p
    · subst h; rw [upd_same] at e; cases e; exact ho
    · rw [upd_ne h] at e; exact S.bas.gh a u e
  · by_cases h : a = p
    · subst h; exact h3
    · rw [upd_ne h] at e; exact S.bas.fg a u e
  · by_cases h : a = p
    · subst h; exact h5
    · rw [upd_ne h] at e; exact S.bas.gt a u e
  · have q := S.sl i s e
    cases s with
    | no => trivial
    | sh d => exact q
    | own d =>
      obtain ⟨p', q1, q2, q3, q4, q5⟩ := q
      have hp : p' ≠ p := fun z => by subst z; exact h6 i d e q1
      exact ⟨p', q1, q2, q3, by rw [upd_ne hp]; exact q4, q5⟩
section
variable {X : Cx} {e e2 a b c o tg : Expr} {es : List Expr} {st : Stmt} {sts rest body orelse : List Stmt} {r : Env2} {G : Hp} {pos tpos apos cpos p0 : Pos} {D0 : EndsD}
/-- o[i] = e, o a list of the open region, e an int -/
theorem ws_setG (h : WE X e r G fun y r1 G1 => ∃ n, vw r1 y = some (.int n) ∧ WE X o r1 G1 fun x r2 G2 => ∃ g, x = .sh (.adr g) ∧ WE X a r2 G2 fun z r3 G3 => ∃ k vs m, vw r3 z = some (.int k) ∧ G3 g = some (.lst vs) ∧ ixN vs.length k = some m ∧ D0.nx r3 (upd G3 g (.lst (vs.set m (.int n)))))
    (ha : ∀ v, assign (.Subscript o a tpos) X.env v = (do
      let ov ← holding [v] (eval o X.env)
      let iv ← holding [v, ov] (eval a X.env)
      standAt tpos
      holding [v, ov, iv] (setItem ov iv v)
      release [v, ov, iv] []) := by intro _; rfl)
    (hs : swapsWithSole [.Subscript o a tpos] e pos.line X.env = pure false := by rfl) (hw : swappedStores [.Subscript o a tpos] e X.env = pure none := by rfl)
    (h1 : (assignEach [.Subscript o a tpos] X.env).map (·.2) = [assign (.Subscript o a tpos) X.env] := by rfl) : WS X (.Assign [.Subscript o a tpos] e pos) r G D0 := fun F0 T F H σ S =>
  RunS.of (ps_asg peR (pg_sub peR peR set_list ha) hs hw h1) ((h F0 T F H σ S).mono fun v H1 ⟨y, r1, G1, F1, e1, S1, k1, n, q1, q2⟩ => by
    cases (S1.view k1 q1).int
    refine (q2 F0 T F1 H1 σ S1).mono fun vo H2 ⟨x, r2, G2, F2, e2, S2, k2, g, hx, q3⟩ => ?_
    subst hx
    cases (show vo = .ref g from k2)
    refine (q3 F0 T F2 H2 σ S2).mono fun vi H3 ⟨z, r3, G3, F3, e3, S3, k3, k, vs, m, q4, q5, q6, q7⟩ => ?_
    cases (S3.view k3 q4).int
    exact ⟨g, vs, k, m, rfl, rfl, S3.bas.gh _ _ q5, q6, r3, _, F3, S3.gput q5 _, q7⟩)
/-- o.pop(i), o a list of the open region -/
theorem we_popG {Q : Res → Env2 → Hp → Prop}
    (h : WE X o r G fun x r1 G1 => ∃ g vs0, x = .sh (.adr g) ∧ G1 g = some (.lst vs0) ∧ WE X e r1 G1 fun y r2 G2 => ∃ (j : Nat), ∃ vs v, vw r2 y = some (.int (j : Nat)) ∧ G2 g = some (.lst vs) ∧ vs[j]? = some v ∧ flatR v = true ∧ j < LIM ∧ Q (.sh (vD v)) r2 (upd G2 g (.lst (vs.eraseIdx j))))
    (hbase : attributeBase o "pop" X.env (eval o X.env) = eval o X.env := by rfl)
    (hfew : ((backTo cpos (starEach [e] X.env)).all (fun x => !x.1) && (backToKw cpos (keywordEach [] X.env)).all (fun x => x.1.isSome) && decide (([e] : List Expr).length + ([] : List Keyword).length + (if ([] : List Keyword).isEmpty then 0 else 1) < 30)) = true := by rfl)
    (hline : (apos.endLine == cpos.line) = true := by rfl) (hs : starEach [e] X.env = (false, eval e X.env) :: starEach [] X.env := by rfl) (hplain : (backTo cpos (starEach [] X.env)).any (·.1) = false := by rfl) :
    WE X (.Call (.Attribute o "pop" apos) [e] [] cpos) r G Q := fun F0 T F H σ S =>
  Run.of (pe_bm PySem.F.plainAttrs_list PySem.F.slot_list_pop PySem.F.type_list_pop mt_popAt peR (pa_cons peR pa_nil hs) hbase hfew hline hs hplain) ((h F0 T F H σ S).mono fun v H1 ⟨x, r1, G1, F1, e1, S1, k1, g, vs0, hx, hg0, h1⟩ => by
    subst hx
    cases (show v = .ref g from k1)
    refine ⟨.inl ⟨rfl, vs0, .inl (.inl (S1.bas.gh _ _ hg0))⟩, (h1 F0 T F1 H1 σ S1).mono fun w H2 ⟨y, r2, G2, F2, e2, S2, k2, j, vs, u, q1, q2, q3, q4, q5, q6⟩ => ?_⟩
    cases (S2.view k2 q1).int
    have hj : j < vs.length := (List.getElem?_eq_some_iff.mp q3).1
    have hb : (j : Int) < 2 ^ 63 := by
      have : (LIM : Int) < 2 ^ 63 := by decide
      omega
    refine ⟨g, vs, (j : Int), j, u, rfl, rfl, S2.bas.gh _ _ q2, by omega, hb, ?_, q3, .sh (vD u), r2, _, F2, e1.trans e2, S2.gput q2 _, vD_rep q4, q6⟩
    unfold seqIndex?
    simp
    omega)
/-- an item of a list of the open region -/
theorem we_ixG {Q : Res → Env2 → Hp → Prop} (hp : PlainIx b)
    (h : WE X a r G fun x r1 G1 => WE X b r1 G1 fun y r2 G2 => ∃ g vs i v, x = .sh (.adr g) ∧ vw r2 y = some (.int i) ∧ G2 g = some (.lst vs) ∧ atI vs i = some v ∧ flatR v = true ∧ Q (.sh (vD v)) r2 G2) : WE X (.Subscript a b pos) r G Q :=
  fun F0 T F H σ S => Run.of (pe_ix ix_list peR peR hp) (by
    refine (h F0 T F H σ S).mono fun va H1 ⟨x, r1, G1, F1, e1, S1, k1, h1⟩ => ?_
    obtain ⟨F1', e1', S1', hv⟩ := hold S1 k1
    refine (h1 F0 T F1' H1 σ S1').mono fun vb H2 ⟨y, r2, G2, F2, e2, S2, k2, g, vs, i, v, hx, q1, q2, q3, q4, q5⟩ => ?_
    subst hx
    cases (show va = .ref g from k1)
    cases (S2.view k2 q1).int
    exact ⟨g, vs, i, v, rfl, rfl, .inl (.inl (S2.bas.gh _ _ q2)), q3, .sh (vD v), r2, G2, F2, (e1.trans e1').trans e2, S2, vD_rep q4, q5⟩)
/-- the script: a list of ints that nobody changes -/
def Scr (K : PySem.W.Frag) (G : Hp) (g : Addr) (ns : List Int) : Prop := SqL K G g (ns.map V.int)
theorem ws_forS {is : List Nat} (hp : PassesOwn (model X.prog X.w) X.A X.env X.xe) (hc : X.calm = true) {g : Addr} {ns : List Int}
    (h : WE X e r G fun x r1 G1 => x = .sh (.adr g) ∧ ∃ I : Nat → Env2 → Hp → Prop, I 0 r1 G1 ∧ (∀ k r3 G3, I k r3 G3 → Scr X.K G3 g ns) ∧ (∀ (k : Nat) (n : Int) (r3 : Env2) (G3 : Hp), ns[k]? = some n → I k r3 G3 → WG X tg (.int n) r3 G3 is fun r4 G4 => WB X body r4 G4 { D0 with nx := I (k + 1), ct := I (k + 1), bk := D0.nx }) ∧
      ∀ r3 G3, I ns.length r3 G3 → D0.nx r3 G3) (hs : ∀ x, foldedSetIterable e X.env x = pure x := by intro _; rfl) : WS X (.For tg e body [] pos) r G D0 := fun F0 T F H σ S =>
  RunS.of (ps_for hp hc (pi_list peR) pgR pbR hs) ((h F0 T F H σ S).mono fun v H1 ⟨x, r1, G1, F1, e1, S1, k1, hx, I, i0, isc, it, ie⟩ => by
    subst hx
    cases (show v = .ref g from k1)
    refine ⟨g, rfl, ⟨ns.map V.int, S1.bas.gh.sqL (isc 0 r1 G1 i0)⟩, for_list (xs := ns.map V.int) (fun k σ' H' => PostN X.K F1 T (I k) σ' H') ⟨r1, G1, F1, S1.base, i0⟩ (fun k σ' H' _ ⟨r', G', F', S', q'⟩ => S'.bas.gh.sqL (isc k r' G' q')) (fun k x' σ' H' hx ⟨r', G', F', S', q'⟩ => ?_) fun σ' H' ⟨r', G', F', S', q'⟩ => ?_⟩
    · rw [List.getElem?_map] at hx
      cases hn : ns[k]? with
      | none => rw [hn] at hx; cases hx
      | some n =>
        rw [hn] at hx
        cases hx
        exact turn1 S1.bas S' (d := .int n) rfl (it k n r' G' hn q') fun _ _ z => z
    · rw [List.length_map] at q'
      exact at_back S1.bas ⟨r', G', F', S', ie r' G' q'⟩)
/-- list(script), len(script) -/
theorem we_listS {x : Str} {Q : Res → Env2 → Hp → Prop} (hg : Gl X x) (hm : X.mg x = none) (hv : bootBuiltins x = some (.type "list")) (h : WE X e r G fun x r1 G1 => ∃ g ns, x = .sh (.adr g) ∧ Scr X.K G1 g ns ∧ Q (.fr (.lst (ns.map D.int))) r1 G1)
    (hn : x ≠ "__name__" := by decide) (hdb : (x == ("__debug__" : Str)) = false := by decide) (he : starEach [e] X.env = (false, eval e X.env) :: starEach [] X.env := by rfl) (hpl : (backTo pos (starEach [] X.env)).any (·.1) = false := by rfl) :
    WE X (.Call (.Name x p0) [e] [] pos) r G Q := fun F0 T F H σ S => Run.of (pe_callTy call_list_of hg hm hv (pa_cons peR pa_nil he) hn hdb he hpl) ((h F0 T F H σ S).mono fun v H1 ⟨x, r1, G1, F1, e1, S1, k1, g, ns, hx, q1, q2⟩ => by
      subst hx
      cases (show v = .ref g from k1)
      refine ⟨g, ns.map V.int, rfl, .inl (S1.bas.gh.sqL q1), fun l hl => ?_⟩
      obtain ⟨f1, f2, f3⟩ := S1.bas.freshF hl
      exact ⟨.fr (.lst (ns.map D.int)), r1, G1, F1, e1, S1.newH hl, ⟨l, rfl, ⟨_, upd_same, RepL.of_ints ns⟩, f1, f2, f3, S1.freshR hl⟩, q2⟩)
theorem we_lenS {x : Str} {Q : Res → Env2 → Hp → Prop} (hg : Gl X x) (hm : X.mg x = none) (hv : bootBuiltins x = some (.builtin "len")) (h : WE X e r G fun x r1 G1 => ∃ g ns, x = .sh (.adr g) ∧ Scr X.K G1 g ns ∧ Q (.sh (.int (ns.length : Nat))) r1 G1)
    (hn : x ≠ "__name__" := by decide) (hdb : (x == ("__debug__" : Str)) = false := by decide) (he : starEach [e] X.env = (false, eval e X.env) :: starEach [] X.env := by rfl) (hpl : (backTo pos (starEach [] X.env)).any (·.1) = false := by rfl) :
    WE X (.Call (.Name x p0) [e] [] pos) r G Q := fun F0 T F H σ S => Run.of (pe_callB call_len_seq hg hm hv (pa_cons peR pa_nil he) hn hdb he hpl) ((h F0 T F H σ S).mono fun v H1 ⟨x, r1, G1, F1, e1, S1, k1, g, ns, hx, q1, q2⟩ => by
      subst hx
      cases (show v = .ref g from k1)
      exact ⟨g, ns.map V.int, rfl, .inl (S1.bas.gh.sqL q1), .sh (.int (ns.length : Nat)), r1, G1, F1, e1, S1, by rw [List.length_map]; rfl, q2⟩)
end
/-! ### the box of draws -/
/-- the box at b: the list at g, a number -/
def boxG (G0 : Hp) (b g : Addr) (ns : List Int) (st : Int) : Hp := upd (upd G0 g (.lst (ns.map V.int))) b (.lst [.ref g, .int st])
structure BoxOk (G0 : Hp) (b g : Addr) : Prop where
  ne : g ≠ b
theorem boxG_b {G0 : Hp} {b g : Addr} {ns : List Int} {st : Int} : boxG G0 b g ns st b = some (.lst [.ref g, .int st]) := upd_same
theorem boxG_g {G0 : Hp} {b g : Addr} {ns : List Int} {st : Int} (h : g ≠ b) : boxG G0 b g ns st g = some (.lst (ns.map V.int)) := by unfold boxG; rw [upd_ne h, upd_same]
theorem boxG_setB {G0 : Hp} {b g : Addr} {ns : List Int} {st st' : Int} : upd (boxG G0 b g ns st) b (.lst [.ref g, .int st']) = boxG G0 b g ns st' := by unfold boxG; rw [upd_upd]
theorem boxG_setG {G0 : Hp} {b g : Addr} {ns ns' : List Int} {st : Int} (h : g ≠ b) : upd (boxG G0 b g ns st) g (.lst (ns'.map V.int)) = boxG G0 b g ns' st := by
  unfold boxG
  funext a
  by_cases h1 : a = g
  · subst h1; rw [upd_same, upd_ne h, upd_same]
  · rw [upd_ne h1]
    by_cases h2 : a = b
    · subst h2; rw [upd_same, upd_same]
    · rw [upd_ne h2, upd_ne h1, upd_ne h2, upd_ne h1]


/-! ### lists of ints -/
theorem flatR_ints : ∀ ns : List Int, (ns.map V.int).all flatR = true
  | [] => rfl
  | n :: ns => by rw [List.map_cons, List.all_cons, flatR_ints ns]; rfl
theorem vD_ints (ns : List Int) : (ns.map V.int).map vD = ns.map D.int := by rw [List.map_map]; rfl
theorem okD_ints (ns : List Int) : okD 1 (.lst (ns.map D.int)) := fun d hd => by
  obtain ⟨n, _, rfl⟩ := List.mem_map.mp hd
  trivial
theorem okD_intsT (ns : List Int) : okD 1 (.tup (ns.map D.int)) := fun d hd => by
  obtain ⟨n, _, rfl⟩ := List.mem_map.mp hd
  trivial
theorem eqvAll_ints : ∀ ns ms : List Int, PyData.eqvAll (toPs (ns.map D.int)) (toPs (ms.map D.int)) = decide (ns = ms)
  | [], [] => rfl
  | [], m :: ms => by simp [toPs, PyData.eqvAll]
  | n :: ns, [] => by simp [toPs, PyData.eqvAll]
  | n :: ns, m :: ms => by
    show (PyData.eqv (.int n) (.int m) && PyData.eqvAll (toPs (ns.map D.int)) (toPs (ms.map D.int))) = _
    rw [eqvAll_ints ns ms]
    have : PyData.eqv (.int n) (.int m) = decide (n = m) := by
      show (n == m) = decide (n = m)
      by_cases h : n = m <;> simp [h]
    rw [this]
    by_cases h1 : n = m <;> by_cases h2 : ns = ms <;> simp [h1, h2]
theorem eqD_ints (ns ms : List Int) : eqD (.lst (ns.map D.int)) (.lst (ms.map D.int)) = decide (ns = ms) := eqvAll_ints ns ms
theorem eqD_intsT (ns ms : List Int) : eqD (.tup (ns.map D.int)) (.tup (ms.map D.int)) = decide (ns = ms) := eqvAll_ints ns ms
theorem eqD_refl {n : Nat} {d : D} (h : okD n d) : eqD d d = true := SeqAt.eqv_refl _ (okD.lay n d h)
theorem ints_get {ns : List Int} {k : Nat} {d : D} (h : (ns.map D.int)[k]? = some d) : ∃ n, ns[k]? = some n ∧ d = .int n := by
  rw [List.getElem?_map] at h
  cases e : ns[k]? with
  | none => rw [e] at h; cases h
  | some n => rw [e] at h; cases h; exact ⟨n, rfl, rfl⟩

section
variable {X : Cx} {e a b c o tg : Expr} {es : List Expr} {st : Stmt} {sts rest body orelse : List Stmt} {r : Env2} {G : Hp} {pos tpos apos cpos p0 : Pos} {D0 : EndsD}
/-! ### a < b < c -/
theorem chain {op op' : CmpOp} {Q : Res → Env2 → Hp → Prop} {F0 T F H : Hp} {σ : L2.St} (S : Sta X.K F0 T F G H r σ)
    (h : WE X a r G fun x r1 G1 => WE X b r1 G1 fun y r2 G2 => ∃ da db, VwR r2 G2 x da ∧ VwR r2 G2 y db ∧ OpW X (compareOp op) da db fun z => ∃ k, z = .sh (.bl k) ∧ (k = true → WE X c r2 G2 fun w r3 G3 => ∃ db' dc, VwR r3 G3 y db' ∧ VwR r3 G3 w dc ∧ OpW X (compareOp op') db' dc fun u => Q u r3 G3) ∧ (k = false → Q (.sh (.bl false)) r2 G2)) :
    tChain (opU X (compareOp op)) (opU X (compareOp op')) (Run X a) (Run X b) (Run X c) σ H (PostE X.K F0 T F σ Q) := by
  refine (h F0 T F H σ S).mono fun va H1 ⟨x, r1, G1, F1, e1, S1, k1, h1⟩ => ?_
  obtain ⟨F1', e1', S1', hv⟩ := hold S1 k1
  refine (h1 F0 T F1' H1 σ S1').mono fun vb H2 ⟨y, r2, G2, F2, e2, S2, k2, da, db, q1, q2, q3⟩ => ?_
  obtain ⟨F2', e2', S2', hw⟩ := hold S2 k2
  obtain ⟨rr, h3, h4⟩ := q3 F0 T F2' G2 H2 r2 σ va vb S2' (hv F2' G2 H2 r2 da (e2.trans e2') S2' q1) (hw F2' G2 H2 r2 db (Ex.refl _) S2' q2)
  refine ⟨_, (show OpR X (compareOp op) (fun u w H Q' => rr u w H _ ∧ ∀ v H', _ → Q' v H') from fun pins s σ H x y v u Q' I rx ry ⟨q, m⟩ => wpAny_mono (h3 pins s σ H x y v u _ I rx ry q) (fun _ _ ⟨v, H', I', rl, q⟩ => ⟨v, H', I', rl, m v H' q⟩) fun _ _ x => x), h4, fun v H3 ⟨z, F3, e3, S3, k3, k, hz, m1, m2⟩ => ?_⟩
  subst hz
  refine ⟨k, k3, ?_⟩
  cases k with
  | false =>
    rw [if_neg Bool.false_ne_true]
    exact ⟨.sh (.bl false), r2, G2, F3, (((e1.trans e1').trans e2).trans e2').trans e3, S3, rfl, m2 rfl⟩
  | true =>
    rw [if_pos rfl]
    refine (m1 rfl F0 T F3 H3 σ S3).mono fun vc H4 ⟨w, r3, G3, F4, e4, S4, k4, db', dc, n1, n2, n3⟩ => ?_
    obtain ⟨rr2, h5, h6⟩ := n3 F0 T F4 G3 H4 r3 σ vb vc S4 (hw F4 G3 H4 r3 db' (e3.trans e4) S4 n1) (S4.viewR k4 n2)
    exact ⟨_, (show OpR X (compareOp op') (fun u w H Q' => rr2 u w H _ ∧ ∀ v H', _ → Q' v H') from fun pins s σ H x y v u Q' I rx ry ⟨q, m⟩ => wpAny_mono (h5 pins s σ H x y v u _ I rx ry q) (fun _ _ ⟨v, H', I', rl, q⟩ => ⟨v, H', I', rl, m v H' q⟩) fun _ _ x => x), h6, fun v H' ⟨z, F', l1, l2, l3, l4⟩ => ⟨z, r3, G3, F', (((((e1.trans e1').trans e2).trans e2').trans e3).trans e4).trans l1, l2, l3, l4⟩⟩
theorem we_chain {op op' : CmpOp} {Q : Res → Env2 → Hp → Prop}
    (h : WE X a r G fun x r1 G1 => WE X b r1 G1 fun y r2 G2 => ∃ da db, VwR r2 G2 x da ∧ VwR r2 G2 y db ∧ OpW X (compareOp op) da db fun z => ∃ k, z = .sh (.bl k) ∧ (k = true → WE X c r2 G2 fun w r3 G3 => ∃ db' dc, VwR r3 G3 y db' ∧ VwR r3 G3 w dc ∧ OpW X (compareOp op') db' dc fun u => Q u r3 G3) ∧ (k = false → Q (.sh (.bl false)) r2 G2))
    (hm : lastMarks [op, op'] [b, c] = false := by with_unfolding_all rfl) : WE X (.Compare a [op, op'] [b, c] pos) r G Q := fun F0 T F H σ S => Run.of (pe_chain (opU_ok _) (opU_ok _) peR peR peR hm) (chain S h)
/-- lo <= x <= hi on ints -/
theorem we_chainI {op op' : CmpOp} {p q : Int → Int → Bool} {Q : Res → Env2 → Hp → Prop} (ho : ∀ (i j : Int) (R : Res → Prop), R (.sh (.bl (p i j))) → OpW X (compareOp op) (.int i) (.int j) R) (ho' : ∀ (i j : Int) (R : Res → Prop), R (.sh (.bl (q i j))) → OpW X (compareOp op') (.int i) (.int j) R)
    (h : WE X a r G fun x r1 G1 => WE X b r1 G1 fun y r2 G2 => ∃ i j k, vw r2 x = some (.int i) ∧ vw r2 y = some (.int j) ∧ (p i j = true → WE X c r2 G2 fun w r3 G3 => r3 = r2 ∧ G3 = G2 ∧ vw r3 w = some (.int k)) ∧ Q (.sh (.bl (p i j && q j k))) r2 G2)
    (hm : lastMarks [op, op'] [b, c] = false := by with_unfolding_all rfl) : WE X (.Compare a [op, op'] [b, c] pos) r G Q :=
  we_chain (h.mono fun x r1 G1 h1 => h1.mono fun y r2 G2 ⟨i, j, k, q1, q2, q3, q4⟩ => ⟨_, _, .inl q1, .inl q2, ho i j _ ⟨p i j, rfl, fun hp => (q3 hp).mono fun w r3 G3 ⟨m1, m2, m3⟩ => ⟨_, _, .inl (by rw [m1]; exact q2), .inl m3, ho' j k _ (by subst m1 m2; rw [hp, Bool.true_and] at q4; exact q4)⟩, fun hp => by rw [hp, Bool.false_and] at q4; exact q4⟩⟩) hm
theorem wt_chainI {op op' : CmpOp} {p q : Int → Int → Bool} {Q : Bool → Env2 → Hp → Prop} (ho : ∀ (i j : Int) (R : Res → Prop), R (.sh (.bl (p i j))) → OpW X (compareOp op) (.int i) (.int j) R) (ho' : ∀ (i j : Int) (R : Res → Prop), R (.sh (.bl (q i j))) → OpW X (compareOp op') (.int i) (.int j) R)
    (h : WE X a r G fun x r1 G1 => WE X b r1 G1 fun y r2 G2 => ∃ i j k, vw r2 x = some (.int i) ∧ vw r2 y = some (.int j) ∧ (p i j = true → WE X c r2 G2 fun w r3 G3 => r3 = r2 ∧ G3 = G2 ∧ vw r3 w = some (.int k)) ∧ Q (p i j && q j k) r2 G2)
    (hm : lastMarks [op, op'] [b, c] = false := by with_unfolding_all rfl) : WT X (.Compare a [op, op'] [b, c] pos) r G Q := fun F0 T F H σ S =>
  RunT.of (pt_chain (opU_ok _) (opU_ok _) peR peR peR hm) (by
    have base := we_chainI (pos := pos) (Q := isB Q) ho ho' (h.mono fun x r1 G1 h1 => h1.mono fun y r2 G2 ⟨i, j, k, q1, q2, q3, q4⟩ => ⟨i, j, k, q1, q2, q3, ⟨_, rfl, q4⟩⟩) hm
    have z := chain (Q := isB Q) S (h.mono fun x r1 G1 h1 => h1.mono fun y r2 G2 ⟨i, j, k, q1, q2, q3, q4⟩ => ⟨_, _, .inl q1, .inl q2, ho i j _ ⟨p i j, rfl, fun hp => (q3 hp).mono fun w r3 G3 ⟨m1, m2, m3⟩ => ⟨_, _, .inl (by rw [m1]; exact q2), .inl m3, ho' j k _ (by subst m1 m2; rw [hp, Bool.true_and] at q4; exact ⟨_, rfl, q4⟩)⟩, fun hp => by rw [hp, Bool.false_and] at q4; exact ⟨_, rfl, q4⟩⟩⟩)
    refine Run.mono z fun va H1 z1 => Run.mono z1 fun vb H2 ⟨rr, h3, h4⟩ => ⟨_, (show OpR X (compareOp op) (fun u w H Q' => rr u w H _ ∧ ∀ v H', _ → Q' v H') from fun pins s σ H x y v u Q' I rx ry ⟨q, m⟩ => wpAny_mono (h3 pins s σ H x y v u _ I rx ry q) (fun _ _ ⟨v, H', I', rl, q⟩ => ⟨v, H', I', rl, m v H' q⟩) fun _ _ x => x), h4, fun v H3 ⟨k, hk, hz⟩ => ⟨k, hk, ?_⟩⟩
    cases k with
    | false => rw [if_neg Bool.false_ne_true] at hz ⊢; exact postB hz
    | true =>
      rw [if_pos rfl] at hz ⊢
      refine Run.mono hz fun vc H4 ⟨rr2, h5, h6⟩ => ⟨_, (show OpR X (compareOp op') (fun u w H Q' => rr2 u w H _ ∧ ∀ v H', _ → Q' v H') from fun pins s σ H x y v u Q' I rx ry ⟨q, m⟩ => wpAny_mono (h5 pins s σ H x y v u _ I rx ry q) (fun _ _ ⟨v, H', I', rl, q⟩ => ⟨v, H', I', rl, m v H' q⟩) fun _ _ x => x), h6, fun v H' z' => postB z'⟩)

/-! ### tests joined -/
theorem ww_andB {Q : Bool → Env2 → Hp → Prop} (h : WT X a r G fun c1 r1 G1 => ∃ c2, (c1 = true → WW X (.BoolOp .And (b :: es) pos) r1 G1 fun d r2 G2 => d = c2 ∧ r2 = r1 ∧ G2 = G1) ∧ Q (c1 && c2) r1 G1) : WW X (.BoolOp .And (a :: b :: es) pos) r G Q :=
  ww_and (h.mono fun c1 r1 G1 ⟨c2, h1, h2⟩ => ⟨fun hc => fun F0 T F H σ S w pins s I => wpAny_mono (h1 hc F0 T F H σ S w pins s I) (fun _ _ ⟨H', I', r', G', F', k1, k2, k3, k4, k5⟩ => ⟨H', I', r', G', F', k1, k2, by subst k3 k4 k5; rw [hc, Bool.true_and] at h2; exact h2⟩) fun _ _ x => x, fun hc => by rw [hc, Bool.false_and] at h2; exact h2⟩)
theorem ww_orB {Q : Bool → Env2 → Hp → Prop} (h : WT X a r G fun c1 r1 G1 => ∃ c2, (c1 = false → WW X (.BoolOp .Or (b :: es) pos) r1 G1 fun d r2 G2 => d = c2 ∧ r2 = r1 ∧ G2 = G1) ∧ Q (c1 || c2) r1 G1) : WW X (.BoolOp .Or (a :: b :: es) pos) r G Q :=
  ww_or (h.mono fun c1 r1 G1 ⟨c2, h1, h2⟩ => ⟨fun hc => fun F0 T F H σ S w pins s I => wpAny_mono (h1 hc F0 T F H σ S w pins s I) (fun _ _ ⟨H', I', r', G', F', k1, k2, k3, k4, k5⟩ => ⟨H', I', r', G', F', k1, k2, by subst k3 k4 k5; rw [hc, Bool.false_or] at h2; exact h2⟩) fun _ _ x => x, fun hc => by rw [hc, Bool.true_or] at h2; exact h2⟩)

/-! ### defs by name -/
structure Cal (P : Program) (w : World) (K : PySem.W.Frag) (mg : Str → Option Value) (base : Heap) (x : Str) (k : Nat) (ps : List Str) (sp : FSp) : Prop where
  ex : ∃ (f : Addr) (fd : FuncData), FnOk P w K mg base CX0 k f fd ps (spD K sp) ∧ mg x = some (.ref f) ∧ PySem.W.keepIn K (.ref f) = true ∧ Binds K fd ps []
theorem we_cal {x : Str} {k j : Nat} {ps : List Str} {sp : FSp} {Q : Res → Env2 → Hp → Prop} (C : Cal X.prog X.w X.K X.mg X.base x k ps sp) (hr : Room j X.A) (hg : Gl X x) (h : WA X (e :: es) r G fun ds r1 G1 => sp ds G1 fun z G2 => Q z r1 G2) (hj : k ≤ j := by omega)
    (hdb : (x == ("__debug__" : Str)) = false := by decide) (he : starEach (e :: es) X.env = (false, eval e X.env) :: starEach es X.env := by rfl) (hpl : (backTo pos (starEach es X.env)).any (·.1) = false := by rfl) : WE X (.Call (.Name x p0) (e :: es) [] pos) r G Q := by
  obtain ⟨f, fd, h1, h2, h3, h4⟩ := C.ex
  exact we_call h1 (hr.mono hj) hg h2 h3 h4 h hdb he hpl
/-- a promise met from a state -/
theorem spD_of {K : PySem.W.Frag} {F0 T F F1 H : Hp} {σ : L2.St} {sp : FSp} {ds : List D} {vs : List V} {Q : Res → Env2 → Hp → Prop} {E : XK} (S : Sta K F0 T F1 G H r σ) (e1 : Ex F F1) (ha : RepL K F1 ds vs) (h : sp ds G fun z G2 => Q z r G2) : spD K sp vs H (PostE K F0 T F σ Q) E :=
  ⟨F1, G, ds, _, S.bas.fh, S.bas.gh, S.bas.fg, ha, h, fun x G' v H' F' hp B rt => ⟨x, r, G', F', e1.trans B.ff, S.after B, ResOk.after S B rt, hp⟩⟩

/-! ### instances with slots -/
structure PropD (P : Program) (w : World) (K : PySem.W.Frag) (mg : Str → Option Value) (base : Heap) (C : Addr) (f : Str) (k : Nat) (sp : FSp) : Prop where
  ex : ∃ (p g : Addr) (fd : FuncData), PySem.W.findIn K (.ref C) f = some (some (.ref p)) ∧ PySem.W.specialIn K (.ref p) "__get__" = some (some (.builtin "property.__get__")) ∧ PySem.W.takesIn K (.ref p) = some true ∧ (∃ rest, PySem.W.recIn K p "property" = some (.ref g :: rest)) ∧
    FnOk P w K mg base CX0 k g fd ["self"] (spD K sp) ∧ Binds K fd ["self"] []
theorem fnr {P : Program} {w : World} {K : PySem.W.Frag} {mg : Str → Option Value} {base : Heap} {k : Nat} {f : Addr} {fd : FuncData} {ps : List Str} {sp : Sp} (F : FnOk P w K mg base CX0 k f fd ps sp) (hb : Binds K fd ps []) : FnR P w K mg base CX0 k f sp :=
  (F.raw hb .nil).imp fun vs H Q E h => by rw [List.append_nil]; exact h
theorem we_prop {f : Str} {C : Addr} {k j : Nat} {sp : FSp} {Q : Res → Env2 → Hp → Prop} (c : SlX.SCls X.K C) (p : PropD X.prog X.w X.K X.mg X.base C f k sp) (hr : Room j X.A) (h : WE X e r G fun x r1 G1 => ∃ ds, vw r1 x = some (.ins C ds) ∧ sp [.ins C ds] G1 fun z G2 => Q z r1 G2) (hj : k + 1 ≤ j := by omega)
    (hb : attributeBase e f X.env (eval e X.env) = eval e X.env := by rfl) : WE X (.Attribute e f pos) r G Q := fun F0 T F H σ S => by
  obtain ⟨pa, g, fd, h1, h2, h3, h4, h5, h6⟩ := p.ex
  refine Run.of (SlX.pe_propSl (E := E0) peR c h1 h2 h3 h4 (fnr h5 h6) (hr.mono hj) (fun _ _ _ _ z => z) hb) ((h F0 T F H σ S).mono fun v H1 ⟨x, r1, G1, F1, e1, S1, k1, ds, q1, q2⟩ => ?_)
  obtain ⟨F1', e1', S1', hv⟩ := hold S1 k1
  have vv := hv F1' G1 H1 r1 _ (Ex.refl _) S1' (.inl q1)
  have rp : Rep X.K F1' (.ins C ds) v := by
    rcases vv with z | ⟨_, _, z⟩
    · exact z
    · exact z.elim
  obtain ⟨a, dx, vs, rfl, z1, z2⟩ := vv.ins S1'.bas.fh
  exact ⟨a, dx, vs.map some, rfl, z1, spD_of (E := E0) S1' (e1.trans e1') (.one rp) q2⟩
/-- a slot is read -/
theorem we_fld {f : Str} {C p : Addr} (i : Nat) {Q : Res → Env2 → Hp → Prop} (c : SlX.SCls X.K C) (t : SlX.Slot1 X.K C f p i) (h : WE X e r G fun x r1 G1 => ∃ ds d, vw r1 x = some (.ins C ds) ∧ ds[i]? = some d ∧ Q (.sh d) r1 G1)
    (hb : attributeBase e f X.env (eval e X.env) = eval e X.env := by rfl) : WE X (.Attribute e f pos) r G Q := fun F0 T F H σ S => by
  refine Run.of (SlX.pe_sl peR hb) ((h F0 T F H σ S).mono fun v H1 ⟨x, r1, G1, F1, e1, S1, k1, ds, d, q1, q2, q3⟩ => ?_)
  obtain ⟨a, dx, vs, rfl, z1, z2⟩ := (S1.view k1 q1).ins S1.bas.fh
  obtain ⟨w, y1, y2⟩ := z2.get q2
  exact ⟨a, C, dx, p, vs.map some, i, w, rfl, z1, c, t, by rw [List.getElem?_map, y1]; rfl, .sh d, r1, G1, F1, e1, S1, y2, q3⟩
structure MethD (P : Program) (w : World) (K : PySem.W.Frag) (mg : Str → Option Value) (base : Heap) (C : Addr) (m : Str) (k : Nat) (ps : List Str) (sp : FSp) : Prop where
  ex : ∃ (g : Addr) (fd : FuncData), Meth K C m g ∧ FnOk P w K mg base CX0 k g fd ps (spD K sp) ∧ Binds K fd ps []
theorem we_meth0 {m : Str} {C : Addr} {k j : Nat} {ps : List Str} {sp : FSp} {pl : Sem Bool} {Q : Res → Env2 → Hp → Prop} (c : SlX.SCls X.K C) (p : MethD X.prog X.w X.K X.mg X.base C m k ps sp) (hr : Room j X.A) (h : WE X o r G fun x r1 G1 => ∃ ds, vw r1 x = some (.ins C ds) ∧ sp [.ins C ds] G1 fun z G2 => Q z r1 G2) (hj : k ≤ j := by omega)
    (ht : eval (.Call (.Attribute o m apos) [] [] pos) X.env = (do
      let ov ← eval o X.env
      standAt apos.atName
      let (f, first) ← holding [ov] (getMethod ov m pl)
      callWith pos f first (backTo pos (starEach [] X.env)) (backToKw pos (keywordEach [] X.env))) := by rfl) : WE X (.Call (.Attribute o m apos) [] [] pos) r G Q := fun F0 T F H σ S => by
  obtain ⟨g, fd, h1, h2, h3⟩ := p.ex
  refine Run.of (SlX.pe_methSl0 (E := E0) (pl := pl) peR c h1 (fnr h2 h3) (hr.mono hj) pass0 ht) ((h F0 T F H σ S).mono fun v H1 ⟨x, r1, G1, F1, e1, S1, k1, ds, q1, q2⟩ => ?_)
  obtain ⟨F1', e1', S1', hv⟩ := hold S1 k1
  have vv := hv F1' G1 H1 r1 _ (Ex.refl _) S1' (.inl q1)
  have rp : Rep X.K F1' (.ins C ds) v := by
    rcases vv with z | ⟨_, _, z⟩
    · exact z
    · exact z.elim
  obtain ⟨a, dx, vs, rfl, z1, z2⟩ := vv.ins S1'.bas.fh
  exact ⟨a, dx, vs.map some, rfl, z1, spD_of (E := E0) S1' (e1.trans e1') (.one rp) q2⟩

/-! ### isinstance -/
/-- the class of data, as far as isinstance asks -/
def tyD : D → Option Value
  | .non => some (.type "NoneType")
  | .bl _ => some (.type "bool")
  | .int _ => some (.type "int")
  | .str _ => some (.type "str")
  | .tup _ => some (.type "tuple")
  | .lst _ => some (.type "list")
  | .dic _ _ => some (.type "dict")
  | _ => none
theorem tyX_of {K : PySem.W.Frag} {F H : Hp} {d : D} {v : V} {t : Value} (ex : Ex F H) (h : Vw K F H d v) (e : tyD d = some t) : TyX K H v t := by
  cases d with
  | non => cases e; cases h.non; exact .base .non
  | bl b => cases e; cases h.bl; exact .base (.bl b)
  | int b => cases e; cases h.int; exact .base (.int b)
  | str b => cases e; cases h.str; exact .base (.str b)
  | tup ds =>
    cases e
    obtain ⟨a, vs, rfl, z1, _⟩ := h.tup ex
    rcases z1 with (z | ⟨ob, z⟩) | ⟨ob, its, n, z, zc, _⟩
    · exact .base (.tup z)
    · exact .fTuple z
    · exact .kTuple z zc
  | lst ds =>
    cases e
    obtain ⟨a, vs, rfl, z1, _⟩ := h.lst ex
    exact .base (.lst z1)
  | dic ks ds =>
    cases e
    obtain ⟨a, vs, rfl, z1, _⟩ := h.dic ex
    rcases z1 with z | ⟨ob, z⟩
    · exact .base (.dK z)
    · exact .fDict z
  | ins C ds => cases e
  | adr a => cases e
/-- isinstance(x, T), T a built-in class -/
theorem we_isi {x y : Str} {n : String} {py : Pos} {Q : Res → Env2 → Hp → Prop} (hg : Gl X x) (hm : X.mg x = none) (hv : bootBuiltins x = some (.builtin "isinstance")) (hg2 : Gl X y) (hm2 : X.mg y = none) (hv2 : bootBuiltins y = some (.type n))
    (h : WE X a r G fun z r1 G1 => ∃ d t c, VwR r1 G1 z d ∧ tyD d = some t ∧ PySem.W.kitOne X.K t (.type n) = some c ∧ Q (.sh (.bl c)) r1 G1)
    (hn : x ≠ "__name__" := by decide) (hdb : (x == ("__debug__" : Str)) = false := by decide) (hn2 : y ≠ "__name__" := by decide) (hdb2 : (y == ("__debug__" : Str)) = false := by decide)
    (he : starEach [a, .Name y py] X.env = (false, eval a X.env) :: starEach [.Name y py] X.env := by rfl) (he2 : starEach [.Name y py] X.env = (false, eval (.Name y py) X.env) :: starEach [] X.env := by rfl) (hpl : (backTo pos (starEach [.Name y py] X.env)).any (·.1) = false := by rfl) :
    WE X (.Call (.Name x p0) [a, .Name y py] [] pos) r G Q := fun F0 T F H σ S =>
  Run.of (pe_callB call_isi hg hm hv (pa_cons peR (pa_cons (pe_bltn (v := .ty n) hg2 hm2 hv2 rfl hn2 hdb2) pa_nil he2) he) hn hdb he hpl) ((h F0 T F H σ S).mono fun v H1 ⟨z, r1, G1, F1, e1, S1, k1, d, t, c, q1, q2, q3, q4⟩ =>
    ⟨v, .ty n, t, .type n, c, rfl, .ty n, tyX_of S1.bas.fh (S1.viewR k1 q1) q2, q3, .sh (.bl c), r1, G1, F1, e1, S1, rfl, q4⟩)
/-- isinstance(x, C), C a class of the module; x no instance -/
theorem we_isiC {x y : Str} {C : Addr} {py : Pos} {Q : Res → Env2 → Hp → Prop} (hg : Gl X x) (hm : X.mg x = none) (hv : bootBuiltins x = some (.builtin "isinstance")) (hg2 : Gl X y) (hm2 : X.mg y = some (.ref C))
    (h : WE X a r G fun z r1 G1 => ∃ d t c, VwR r1 G1 z d ∧ tyD d = some t ∧ PySem.W.kitOne X.K t (.ref C) = some c ∧ Q (.sh (.bl c)) r1 G1)
    (hn : x ≠ "__name__" := by decide) (hdb : (x == ("__debug__" : Str)) = false := by decide) (hdb2 : (y == ("__debug__" : Str)) = false := by decide)
    (he : starEach [a, .Name y py] X.env = (false, eval a X.env) :: starEach [.Name y py] X.env := by rfl) (he2 : starEach [.Name y py] X.env = (false, eval (.Name y py) X.env) :: starEach [] X.env := by rfl) (hpl : (backTo pos (starEach [.Name y py] X.env)).any (·.1) = false := by rfl) :
    WE X (.Call (.Name x p0) [a, .Name y py] [] pos) r G Q := fun F0 T F H σ S =>
  Run.of (pe_callB call_isi hg hm hv (pa_cons peR (pa_cons (pe_glob (v := .ref C) hg2 hm2 rfl hdb2) pa_nil he2) he) hn hdb he hpl) ((h F0 T F H σ S).mono fun v H1 ⟨z, r1, G1, F1, e1, S1, k1, d, t, c, q1, q2, q3, q4⟩ =>
    ⟨v, .ref C, t, .ref C, c, rfl, .own C, tyX_of S1.bas.fh (S1.viewR k1 q1) q2, q3, .sh (.bl c), r1, G1, F1, e1, S1, rfl, q4⟩)
/-- .. x an instance with slots -/
theorem we_isiI {x y : Str} {C C' : Addr} {py : Pos} {Q : Res → Env2 → Hp → Prop} (hg : Gl X x) (hm : X.mg x = none) (hv : bootBuiltins x = some (.builtin "isinstance")) (hg2 : Gl X y) (hm2 : X.mg y = some (.ref C')) (cc : SlX.SCls X.K C) (ci : SlX.SIsi X.K C)
    (h : WE X a r G fun z r1 G1 => ∃ ds c, vw r1 z = some (.ins C ds) ∧ PySem.W.kitOne X.K (.ref C) (.ref C') = some c ∧ Q (.sh (.bl c)) r1 G1)
    (hn : x ≠ "__name__" := by decide) (hdb : (x == ("__debug__" : Str)) = false := by decide) (hdb2 : (y == ("__debug__" : Str)) = false := by decide)
    (he : starEach [a, .Name y py] X.env = (false, eval a X.env) :: starEach [.Name y py] X.env := by rfl) (he2 : starEach [.Name y py] X.env = (false, eval (.Name y py) X.env) :: starEach [] X.env := by rfl) (hpl : (backTo pos (starEach [.Name y py] X.env)).any (·.1) = false := by rfl) :
    WE X (.Call (.Name x p0) [a, .Name y py] [] pos) r G Q := fun F0 T F H σ S =>
  Run.of (pe_callB (SlX.call_isiSl (.ref C')) hg hm hv (pa_cons peR (pa_cons (pe_glob (v := .ref C') hg2 hm2 rfl hdb2) pa_nil he2) he) hn hdb he hpl) ((h F0 T F H σ S).mono fun v H1 ⟨z, r1, G1, F1, e1, S1, k1, ds, c, q1, q3, q4⟩ => by
    obtain ⟨ad, dx, vs, rfl, z1, z2⟩ := (S1.view k1 q1).ins S1.bas.fh
    exact ⟨ad, C, dx, vs.map some, .ref C', c, rfl, rfl, fun w hw => hw, z1, cc, ci, q3, .sh (.bl c), r1, G1, F1, e1, S1, rfl, q4⟩)

/-! ### C(..) of a class with slots -/
/-- the promise of __init__: the new instance is frozen data behind it -/
def spI (K : PySem.W.Frag) (C : Addr) (f : List D → Option (List D)) : Sp := fun vs H Q _ => ∃ (x dx : Addr) (us : List V) (F G : Hp) (ds ys : List D), vs = .ref x :: us ∧ H x = some (.ins C dx []) ∧ H dx = some (.own x) ∧ dx ≠ x ∧ F x = none ∧ F dx = none ∧ G x = none ∧ G dx = none ∧
  Ex F H ∧ Ex G H ∧ (∀ a o, G a = some o → F a = none) ∧ RepL K F ds us ∧ f ds = some ys ∧
  ∀ H' F', Bas F (fun a => if a = x ∨ a = dx then none else Tof G H a) F' G H' → Rep K F' (.ins C ys) (.ref x) → Q .non H'
structure MakeD (P : Program) (w : World) (K : PySem.W.Frag) (mg : Str → Option Value) (base : Heap) (x : Str) (C : Addr) (k : Nat) (ps : List Str) (f : List D → Option (List D)) : Prop where
  ex : ∃ (g : Addr) (fd : FuncData), Mk K C g ∧ mg x = some (.ref C) ∧ FnOk P w K mg base CX0 k g fd ps (spI K C f) ∧ Binds K fd ps []
theorem we_make {x : Str} {C : Addr} {k j : Nat} {ps : List Str} {f : List D → Option (List D)} {Q : Res → Env2 → Hp → Prop} (M : MakeD X.prog X.w X.K X.mg X.base x C k ps f) (hr : Room j X.A) (hg : Gl X x) (h : WA X (e :: es) r G fun ds r1 G1 => ∃ ys, f ds = some ys ∧ Q (.sh (.ins C ys)) r1 G1) (hj : k + 1 ≤ j := by omega)
    (hdb : (x == ("__debug__" : Str)) = false := by decide) (he : starEach (e :: es) X.env = (false, eval e X.env) :: starEach es X.env := by rfl) (hpl : (backTo pos (starEach es X.env)).any (·.1) = false := by rfl) : WE X (.Call (.Name x p0) (e :: es) [] pos) r G Q := fun F0 T F H σ S => by
  obtain ⟨g, fd, h1, h2, h3, h4⟩ := M.ex
  refine Run.of (pe_make (E := E0) h1 h3 (hr.mono hj) hg h2 h4 .nil pass0 paR hdb he hpl) ((h F0 T F H σ S).mono fun vs H1 ⟨ds, r1, G1, F1, e1, S1, k1, ys, q1, q2⟩ => ?_)
  intro ad dx ha hd hne
  rw [List.append_nil]
  obtain ⟨f1, f2, f3⟩ := S1.bas.freshF ha
  obtain ⟨g1, g2, g3⟩ := S1.bas.freshF hd
  have ex1 : Ex H1 (upd (upd H1 dx (.own ad)) ad (.ins C dx [])) := fun q u hq => by
    rw [upd_ne (ne_of_none hq ha), upd_ne (ne_of_none hq hd)]; exact hq
  refine ⟨ad, dx, vs, F1, G1, ds, ys, rfl, upd_same, by rw [upd_ne hne, upd_same], hne, f1, g1, f2, g2, S1.bas.fh.trans ex1, S1.bas.gh.trans ex1, S1.bas.fg, k1, q1, fun H' F' B rp => ⟨rfl, ?_⟩⟩
  have B' : Bas F1 (Tof G1 H1) F' G1 H' := by
    have sub : ∀ q u, Tof G1 H1 q = some u → (if q = ad ∨ q = dx then none else Tof G1 (upd (upd H1 dx (.own ad)) ad (.ins C dx [])) q) = some u := fun q u hq => by
      have hG : G1 q = none := by
        cases eg : G1 q with
        | none => rfl
        | some o => rw [Tof_some eg] at hq; cases hq
      rw [Tof_none hG] at hq
      have n1 : q ≠ ad := ne_of_none hq ha
      have n2 : q ≠ dx := ne_of_none hq hd
      rw [if_neg (by simp [n1, n2]), Tof_none hG]
      exact ex1 q u hq
    refine ⟨B.ff, fun q u hq => ?_, B.fh, B.gh, B.fg, fun q u hq => Tof_some hq, fun q u hq => B.tk q u (sub q u hq)⟩
    rcases B.ft q u hq with z | z
    · exact .inl z
    · cases et : Tof G1 H1 q with
      | none => exact .inr rfl
      | some w => rw [sub q w et] at z; cases z
  exact ⟨.sh (.ins C ys), r1, G1, F', e1.trans B'.ff, S1.after B', rp, q2⟩
/-- a block, then statements by hand -/
theorem execs_app (env : Env) (post : List Stmt) : ∀ pre : List Stmt, execs (pre ++ post) env = execs pre env >>= fun f => match f with
    | .next => execs post env
    | f => pure f
  | [] => by
    rw [List.nil_append, execs, pure_bind]
  | st :: pre => by
    rw [List.cons_append, execs, execs, bind_assoc]
    congr 1
    funext f
    cases f with
    | next => exact execs_app env post pre
    | brk => rw [pure_bind]
    | cont => rw [pure_bind]
    | ret v => rw [pure_bind]
theorem runB_then {pre post : List Stmt} {E : Ends} {σ : L2.St} {H : Hp} (h : RunB X pre { E with nx := fun σ' H' => RunB X post E σ' H' } σ H) : RunB X (pre ++ post) E σ H := fun pins s I => by
  rw [execs_app]
  refine wpAny_bind (wpAny_mono (h pins s I) (fun f s' q => ?_) fun _ _ x => x)
  cases f with
  | next => obtain ⟨σ', H', I', q⟩ := q; exact q pins s' I'
  | brk => exact wpAny_pure q
  | cont => exact wpAny_pure q
  | ret v => exact wpAny_pure q
end

theorem bt_len : bootBuiltins "len" = some (.builtin "len") := by decide +kernel
theorem bt_int : bootBuiltins "int" = some (.type "int") := by decide +kernel
theorem bt_list : bootBuiltins "list" = some (.type "list") := by decide +kernel
theorem bt_tuple : bootBuiltins "tuple" = some (.type "tuple") := by decide +kernel
theorem bt_dict : bootBuiltins "dict" = some (.type "dict") := by decide +kernel
theorem bt_bool : bootBuiltins "bool" = some (.type "bool") := by decide +kernel
theorem bt_str : bootBuiltins "str" = some (.type "str") := by decide +kernel
theorem bt_sorted : bootBuiltins "sorted" = some (.builtin "sorted") := by decide +kernel
theorem bt_isinstance : bootBuiltins "isinstance" = some (.builtin "isinstance") := by decide +kernel
theorem bt_abs : bootBuiltins "abs" = some (.builtin "abs") := by decide +kernel
theorem bt_min : bootBuiltins "min" = some (.builtin "min") := by decide +kernel
theorem bt_max : bootBuiltins "max" = some (.builtin "max") := by decide +kernel
theorem bt_sum : bootBuiltins "sum" = some (.builtin "sum") := by decide +kernel
/-! ### enumerate of a tuple -/
section
variable {prog : Program} {w : World} {A : Around} {E : Value → Shared → Prop} {s : Shared}
abbrev tIt (t : Addr) : Obj := { cls := .type "tuple_iterator", data := .fields #[.ref t, .int 0 0] }
abbrev enO (i : Addr) : Obj := { cls := .type "enumerate", data := .fields #[.none, .bool false, .ref i, rawInt 0, .none, .none] }
theorem meets_enumT (t : Addr) (its : Array Value) (o : Obj) (n : Nat) (ho : o.cls = .type "tuple" ∧ o.data = .seq its n) :
    Meets (Builtin.«enumerate.__new__» ⟨[.type "enumerate", .ref t], []⟩) (fun _ R s => s.heap.get? t = some o ∧
      R (.ok (.ret (.ref (s.heap.push (tIt t)).objs.size))) { s with heap := (s.heap.push (tIt t)).push (enO s.heap.objs.size) }) :=
  .of_wp fun prog w A R s h => by
    obtain ⟨c, dc, dt, sl⟩ := o
    obtain ⟨h1, h2⟩ := ho
    cases h1
    obtain ⟨hp, g, d, tk, os⟩ := s; obtain ⟨hl, h⟩ := h
    have sub := sub_enumerate
    have tup : Heap.IsTuple (Shared.heap ⟨hp, g, d, tk, os⟩) t its := ⟨_, hl, rfl, _, h2⟩
    wp_walk using AutoSeq1.wpAny_loadPart' hl
    refine wpAny_stack_any fun st => wpAny_pure ?_
    split
    · rename_i c _ _ _ _ _
      cases (c == Value.type "enumerate")
      all_goals
        wp_walk using AutoSeq1.wpAny_loadPart' hl, wpAny_pyIter_tuple tup
        exact ⟨_, rfl, h⟩
    · wp_walk using AutoSeq1.wpAny_loadPart' hl, wpAny_pyIter_tuple tup
      exact ⟨_, rfl, h⟩
theorem callEnumT {t : Addr} {its : Array Value} {Q : Value → Shared → Prop} (ht : s.heap.IsTuple t its)
    (h : ∀ h', IsEnum h' (s.heap.objs.size + 1) s.heap.objs.size 0 .none → h'.IsTupleIter s.heap.objs.size t 0 → (∀ b o, s.heap.get? b = some o → h'.get? b = some o) → Q (.ref (s.heap.objs.size + 1)) { s with heap := h' }) :
    wpAny (model prog w) A (call (.type "enumerate") [.ref t]) Q E s := by
  obtain ⟨o, ho, hc, n, hd⟩ := ht
  refine callType_new F.called_enumerate (by decide) (F.typeCall_enumerate_1 _) (F.newCall_enumerate_1 _) (fun obj => F.args_object_init_2 obj _) F.entry_enumerate_new (meets_enumT t its o n ⟨hc, hd⟩) ⟨ho, ?_⟩
  have z : (s.heap.push (tIt t)).objs.size = s.heap.objs.size + 1 := Heap.size_push ..
  show _ ∧ _
  rw [z]
  have he : IsEnum ((s.heap.push (tIt t)).push (enO s.heap.objs.size)) (s.heap.objs.size + 1) s.heap.objs.size 0 .none := by
    have q := Heap.get?_push_size (s.heap.push (tIt t)) (o := enO s.heap.objs.size) rfl
    rw [z] at q
    exact q
  exact ⟨⟨_, he, rfl⟩, h _ he ⟨_, Heap.get?_push_of_some _ (Heap.get?_push_size _ rfl), rfl, rfl⟩ fun b o x => Heap.get?_push_of_some _ (Heap.get?_push_of_some _ x)⟩
end
/-- the tuple at a, each item in a new pair -/
def ItU (K : PySem.W.Frag) (a : Addr) : It :=
  ⟨fun i H => ∃ (xs : List V) (x : V), SqT K H a xs ∧ xs[i]? = some x, fun i H v H' => ∃ T x, v = .ref T ∧ H T = none ∧ H' = upd H T (.tup [.int (i : Nat), x]) ∧ ∀ xs, SqT K H a xs → xs[i]? = some x, fun i H => ∃ xs : List V, SqT K H a xs ∧ xs.length = i⟩
theorem turn_enumT {P : Program} {w : World} {K : PySem.W.Frag} {elts : List Expr} {kk : Nat} {tpos : Pos} (a e it : Addr) (hae : a ≠ e) (hai : a ≠ it) :
    Turn P w K (.Tuple elts kk tpos) (ItU K a) [e, it] e (fun i h => (∃ old, IsEnum h e it ((i : Nat) : Int) old) ∧ h.IsTupleIter it a i ∧ e ≠ it) where
  mem := by simp
  obj := fun i h st b hb => by
    obtain ⟨⟨old, he⟩, ⟨o, ho, hc, hd⟩, _⟩ := st
    rcases (by simpa using hb : b = e ∨ b = it) with z | z
    · rw [z]; exact ⟨_, he, fun v q => nomatch q⟩
    · rw [z]; exact ⟨o, ho, fun v q => by rw [hd] at q; cases q⟩
  keep := fun i h h' ⟨⟨old, he⟩, hi, hne⟩ k => ⟨⟨old, k e (by simp) _ he⟩, hi.at fun o q => k it (by simp) o q, hne⟩
  item := by
    intro X hP hw hK hc i pins s σ H E I hf st hg
    subst hP hw hK
    obtain ⟨⟨old, he⟩, hit, hne⟩ := st
    obtain ⟨xs, x, hq, hx⟩ := hg
    obtain ⟨its, rv, p, hz⟩ := I.tuple hq
    obtain ⟨u, hu, ru⟩ := rv.get hx
    have hel : e < s.heap.objs.size := Heap.lt_size he
    have hil : it < s.heap.objs.size := by obtain ⟨_, q, _⟩ := hit; exact Heap.lt_size q
    have dr := Draws.tuple (prog := X.prog) (w := X.w) (A := X.A.in1) (I.ok.hd hc) it a hai its.toArray
    have lt : i < its.toArray.size := by
      have := (List.getElem?_eq_some_iff.mp hu).1
      simpa using this
    refine wpAny_pyNext_enum_itemD dr he ⟨hit, p⟩ lt hne (by simp [hne, hae.symm]) fun x' h' tk hv ho hit' hT hsz hk => ?_
    have ex : x' = u := by
      have : its[i]? = some x' := by simpa using hv
      rw [hu] at this; cases this; rfl
    subst ex
    refine ⟨_, rfl, wpAny_letOwnedTupleGo_enum (s := { s with heap := h', toks := tk + 1 }) ho fun h'' he' sb => ?_⟩
    have hT2 : h''.get? s.heap.objs.size = some { cls := .type "tuple", data := .seq #[.int i tk, x'] } := (sb.2 _ (Nat.ne_of_gt hel)).trans hT
    have new : ObjOk X.prog X.w (upd H s.heap.objs.size (.tup [.int (i : Nat), x])) h'' s.heap.objs.size (.tup [.int (i : Nat), x]) :=
      ⟨by show 2 ≤ sizeLine; decide, [.int i tk, x'], .cons ⟨_, rfl⟩ (.cons ru .nil), ⟨_, hT2, rfl, _, rfl⟩⟩
    have I1 : Inv X pins σ (upd H s.heap.objs.size (.tup [.int (i : Nat), x])) { s with heap := h'', toks := tk + 1 } :=
      I.turnedNew (ch := [e, it]) (fun b ob hb q => (sb.2 b (fun z => hb (by simp [z]))).trans (hk b ob (fun z => hb (by simp [z])) (fun z => hb (by simp [z])) q)) hf (Nat.le_refl _) new
    refine ⟨.ref s.heap.objs.size, _, I1, rfl, ⟨_, x, rfl, I.hok.fresh (Nat.le_refl _), rfl, fun ys hy => by rw [I.tuple_inj hy hq]; exact hx⟩, ⟨⟨x', he'⟩, hit'.1.at fun o q => (sb.2 it (Ne.symm hne)).trans q, hne⟩, fun b hb => ?_⟩
    have hb' : b < s.heap.objs.size := by
      rcases (by simpa using hb : b = e ∨ b = it) with z | z
      · rw [z]; exact hel
      · rw [z]; exact hil
    rw [upd_ne (Nat.ne_of_lt hb')]
    exact (hf b hb).1
  done := by
    intro X hP hw hK hc i pins s σ H E I hf st hg
    subst hP hw hK
    obtain ⟨⟨old, he⟩, hit, hne⟩ := st
    obtain ⟨xs, hq, hx⟩ := hg
    obtain ⟨its, rv, p, hz⟩ := I.tuple hq
    obtain ⟨f0, f1, f2, f3, f4, f5⟩ := hf it (by simp)
    have hl : its.toArray.size = i := by
      have := rv.length
      simp
      omega
    subst hl
    exact wpAny_pyNext_enum_endD (Draws.tuple (prog := X.prog) (w := X.w) (A := X.A.in1) (I.ok.hd hc) it a hai its.toArray) he ⟨hit, p⟩ fun h' eb => ⟨rfl, I.turned (t' := s.toks) (fun b o hb q => eb b o hb q) f0 f1 f3 f4 f5⟩
  self := fun A i s Q E ⟨⟨_, he⟩, _⟩ h => wpAny_pyIter_enum he h
def iEnumT (K : PySem.W.Frag) (ta : TA) : TI := fun σ H R => ta σ H fun vs H1 => ∃ a xs, vs = [.ref a] ∧ SqT K H1 a xs ∧ R (ItU K a) H1
theorem pi_enumT {X : Cx} {e : Expr} {ta : TA} {p pos tpos : Pos} {elts : List Expr} {kk : Nat} (hg : Gl X "enumerate") (hm : X.mg "enumerate" = none) (ha : PA X [e] ta) (hs : starEach [e] X.env = [(false, eval e X.env)] := by rfl) :
    PI X (.Tuple elts kk tpos) (.Call (.Name "enumerate" p) [e] [] pos) (iEnumT X.K ta) := by
  refine ⟨fun pins s σ H R I h => ?_⟩
  refine Call_ (ld_blt I hg hm boot_enumerate (PyProof.Rows.callWith_type1 (thn (ha.run pos pins s σ H _ I h) fun us s1 ⟨vs, H1, I1, r1, q1⟩ => ?_) hs rfl))
  obtain ⟨a, xs, ex, hq, q⟩ := q1
  subst ex
  cases r1 with
  | cons rl rr =>
    cases rr
    cases rl
    obtain ⟨its, rv, p', hz⟩ := I1.tuple hq
    have ha : a < s1.heap.objs.size := by obtain ⟨_, z, _⟩ := p'; exact Heap.lt_size z
    refine callEnumT (show s1.heap.IsTuple a its.toArray from p') fun h' he hit hk => wpAny_pyIter_enum he ?_
    refine ⟨s1.heap.objs.size + 1, [s1.heap.objs.size + 1, s1.heap.objs.size], _, _, H1, rfl, I1.kept (t' := s1.toks) hk, turn_enumT a (s1.heap.objs.size + 1) s1.heap.objs.size (Nat.ne_of_lt (Nat.lt_succ_of_lt ha)) (Nat.ne_of_lt ha), ⟨⟨.none, he⟩, hit, Nat.succ_ne_self _⟩, fun b hb => ?_, q⟩
    have hle : s1.heap.objs.size ≤ b := by
      rcases (by simpa using hb : b = s1.heap.objs.size + 1 ∨ b = s1.heap.objs.size) with z | z
      · rw [z]; exact Nat.le_succ _
      · rw [z]; exact Nat.le_refl _
    exact I1.fpOk hle (I1.hok.fresh hle)
/-- over the pairs of a tuple that stays -/
theorem for_enumT {K : PySem.W.Frag} {a : Addr} {xs : List V} {g : TG} {tb : TS} {D : Ends} {σ : L2.St} {H : Hp} (Pv : Nat → L2.St → Hp → Prop) (h0 : Pv 0 σ H) (hl : ∀ i σ H, i ≤ xs.length → Pv i σ H → SqT K H a xs)
    (hs : ∀ i x σ H T, xs[i]? = some x → Pv i σ H → H T = none → g (.ref T) σ (upd H T (.tup [.int (i : Nat), x])) fun σ2 H2 => tb { D with nx := Pv (i + 1), ct := Pv (i + 1), bk := D.nx } σ2 H2) (hd : ∀ σ H, Pv xs.length σ H → D.nx σ H) :
    ∃ W : Nat → Nat → L2.St → Hp → Prop, (∃ m, W 0 m σ H) ∧ ∀ i m σ H, W i m σ H →
      ((ItU K a).stop i H ∧ D.nx σ H) ∨ ((ItU K a).go i H ∧ ∃ N : L2.St → Hp → Prop, (∀ σ' H', N σ' H' → ∃ m', m' < m ∧ W (i + 1) m' σ' H') ∧ ∀ x H', (ItU K a).yld i H x H' → g x σ H' fun σ2 H2 => tb { D with nx := N, ct := N, bk := D.nx } σ2 H2) := by
  refine ⟨fun i m σ H => m = xs.length - i ∧ i ≤ xs.length ∧ Pv i σ H, ⟨xs.length, rfl, Nat.zero_le _, h0⟩, fun i m σ H ⟨hm, hi, p⟩ => ?_⟩
  have q := hl i σ H hi p
  rcases Nat.lt_or_ge i xs.length with hlt | hge
  · refine .inr ⟨⟨xs, xs[i], q, by simp [hlt]⟩, Pv (i + 1), fun σ' H' p' => ⟨xs.length - (i + 1), by omega, rfl, hlt, p'⟩, fun v H' ⟨T, x, y1, y2, y3, y4⟩ => ?_⟩
    subst y1 y3
    exact hs i x σ H T (y4 xs q) p y2
  · obtain rfl : i = xs.length := by omega
    exact .inl ⟨⟨xs, q, rfl⟩, hd σ H p⟩
theorem for_enumL {K : PySem.W.Frag} {a : Addr} {xs : List V} {g : TG} {tb : TS} {D : Ends} {σ : L2.St} {H : Hp} (Pv : Nat → L2.St → Hp → Prop) (h0 : Pv 0 σ H) (hl : ∀ i σ H, i ≤ xs.length → Pv i σ H → SqL K H a xs)
    (hs : ∀ i x σ H T, xs[i]? = some x → Pv i σ H → H T = none → g (.ref T) σ (upd H T (.tup [.int (i : Nat), x])) fun σ2 H2 => tb { D with nx := Pv (i + 1), ct := Pv (i + 1), bk := D.nx } σ2 H2) (hd : ∀ σ H, Pv xs.length σ H → D.nx σ H) :
    ∃ W : Nat → Nat → L2.St → Hp → Prop, (∃ m, W 0 m σ H) ∧ ∀ i m σ H, W i m σ H →
      ((Ite K a).stop i H ∧ D.nx σ H) ∨ ((Ite K a).go i H ∧ ∃ N : L2.St → Hp → Prop, (∀ σ' H', N σ' H' → ∃ m', m' < m ∧ W (i + 1) m' σ' H') ∧ ∀ x H', (Ite K a).yld i H x H' → g x σ H' fun σ2 H2 => tb { D with nx := N, ct := N, bk := D.nx } σ2 H2) := by
  refine ⟨fun i m σ H => m = xs.length - i ∧ i ≤ xs.length ∧ Pv i σ H, ⟨xs.length, rfl, Nat.zero_le _, h0⟩, fun i m σ H ⟨hm, hi, p⟩ => ?_⟩
  have q := hl i σ H hi p
  rcases Nat.lt_or_ge i xs.length with hlt | hge
  · refine .inr ⟨⟨xs, xs[i], q, by simp [hlt]⟩, Pv (i + 1), fun σ' H' p' => ⟨xs.length - (i + 1), by omega, rfl, hlt, p'⟩, fun v H' ⟨T, x, y1, y2, y3, y4⟩ => ?_⟩
    subst y1 y3
    exact hs i x σ H T (y4 xs q) p y2
  · obtain rfl : i = xs.length := by omega
    exact .inl ⟨⟨xs, q, Nat.le_refl _⟩, hd σ H p⟩
section
variable {X : Cx} {e a b c o tg : Expr} {es : List Expr} {st : Stmt} {sts rest body orelse : List Stmt} {r : Env2} {G : Hp} {pos tpos p0 : Pos} {D0 : EndsD}
/-- a turn whose pair is new -/
theorem turnE {d : D} {v : V} {i : Nat} {is : List Nat} {F0 T Fa Ga Ha F H : Hp} {p : Addr} {σ : L2.St} {I : Env2 → Hp → Prop} (B : Bas F0 T Fa Ga Ha) (S : Sta X.K Fa T F G H r σ) (rp : Rep X.K F d v) (hp : H p = none) (h : WG X tg (.tup [.int (i : Nat), d]) r G is fun r1 G1 => WB X body r1 G1 { D0 with nx := I, ct := I, bk := D0.nx }) {P : L2.St → Hp → Prop}
    (hP : ∀ σ' H', PostN X.K Fa T I σ' H' → P σ' H') : RunG X tg (.ref p) σ (upd H p (.tup [.int (i : Nat), v])) fun σ2 H2 => RunB X body { D0.at X.K F0 T with nx := P, ct := P, bk := (D0.at X.K F0 T).nx } σ2 H2 := by
  have ef : Ex F (upd F p (.tup [.int (i : Nat), v])) := Ex.new (S.bas.freshF hp).1
  exact turn1 B (S.newF hp) (d := .tup [.int (i : Nat), d]) ⟨p, _, rfl, .inl (.inl upd_same), .int (i : Nat), [v], rfl, rfl, .one (Rep.mono ef _ _ rp)⟩ h hP
theorem ws_forET {is : List Nat} {elts : List Expr} {kk : Nat} {pos' : Pos} (hp : PassesOwn (model X.prog X.w) X.A X.env X.xe) (hc : X.calm = true) (hg : Gl X "enumerate") (hm : X.mg "enumerate" = none)
    (h : WE X a r G fun x r1 G1 => ∃ ds r2, fz r1 x = some (.tup ds, r2) ∧ ∃ I : Nat → Env2 → Hp → Prop, I 0 r2 G1 ∧ (∀ (k : Nat) (d : D) (r3 : Env2) (G3 : Hp), ds[k]? = some d → I k r3 G3 → WG X (.Tuple elts kk tpos) (.tup [.int (k : Nat), d]) r3 G3 is fun r4 G4 => WB X body r4 G4 { D0 with nx := I (k + 1), ct := I (k + 1), bk := D0.nx }) ∧
      ∀ r3 G3, I ds.length r3 G3 → D0.nx r3 G3) (hst : starEach [a] X.env = [(false, eval a X.env)] := by rfl) (hs : ∀ x, foldedSetIterable (.Call (.Name "enumerate" p0) [a] [] pos) X.env x = pure x := by intro _; rfl) : WS X (.For (.Tuple elts kk tpos) (.Call (.Name "enumerate" p0) [a] [] pos) body [] pos') r G D0 := fun F0 T F H σ S =>
  RunS.of (ps_for hp hc (pi_enumT hg hm (pa_cons peR pa_nil hst) hst) pgR pbR hs) ((h F0 T F H σ S).mono fun v H1 ⟨x, r1, G1, F1, e1, S1, k1, ds, r2, q1, I, i0, it, ie⟩ => by
    obtain ⟨Fa, e2, Sa, rp⟩ := S1.fz k1 q1
    obtain ⟨a, vs, rfl, z1, z2⟩ := rp
    refine ⟨a, vs, rfl, Sa.bas.fh.sqT z1, for_enumT (xs := vs) (fun k σ' H' => PostN X.K Fa T (I k) σ' H') ⟨r2, G1, Fa, Sa.base, i0⟩ (fun k σ' H' _ ⟨r', G', F', S', _⟩ => S'.bas.fh.sqT (S'.bas.ff.sqT z1)) (fun k x' σ' H' p hx ⟨r', G', F', S', q'⟩ hpn => ?_) fun σ' H' ⟨r', G', F', S', q'⟩ => ?_⟩
    · obtain ⟨d, hd, rd⟩ := z2.getV hx
      exact turnE Sa.bas S' (Rep.mono S'.bas.ff _ _ rd) hpn (it k d r' G' hd q') fun _ _ z => z
    · rw [z2.length] at q'
      exact at_back Sa.bas ⟨r', G', F', S', ie r' G' q'⟩)
theorem ws_forEL {is : List Nat} {elts : List Expr} {kk : Nat} {pos' : Pos} (hp : PassesOwn (model X.prog X.w) X.A X.env X.xe) (hc : X.calm = true) (hg : Gl X "enumerate") (hm : X.mg "enumerate" = none)
    (h : WE X a r G fun x r1 G1 => ∃ ds r2, fz r1 x = some (.lst ds, r2) ∧ ∃ I : Nat → Env2 → Hp → Prop, I 0 r2 G1 ∧ (∀ (k : Nat) (d : D) (r3 : Env2) (G3 : Hp), ds[k]? = some d → I k r3 G3 → WG X (.Tuple elts kk tpos) (.tup [.int (k : Nat), d]) r3 G3 is fun r4 G4 => WB X body r4 G4 { D0 with nx := I (k + 1), ct := I (k + 1), bk := D0.nx }) ∧
      ∀ r3 G3, I ds.length r3 G3 → D0.nx r3 G3) (hst : starEach [a] X.env = [(false, eval a X.env)] := by rfl) (hs : ∀ x, foldedSetIterable (.Call (.Name "enumerate" p0) [a] [] pos) X.env x = pure x := by intro _; rfl) : WS X (.For (.Tuple elts kk tpos) (.Call (.Name "enumerate" p0) [a] [] pos) body [] pos') r G D0 := fun F0 T F H σ S =>
  RunS.of (ps_for hp hc (pi_enum hg hm (pa_cons peR pa_nil hst) hst) pgR pbR hs) ((h F0 T F H σ S).mono fun v H1 ⟨x, r1, G1, F1, e1, S1, k1, ds, r2, q1, I, i0, it, ie⟩ => by
    obtain ⟨Fa, e2, Sa, rp⟩ := S1.fz k1 q1
    obtain ⟨a, vs, rfl, z1, z2⟩ := rp
    refine ⟨a, vs, rfl, .inl (.inl (Sa.bas.fh _ _ z1)), for_enumL (xs := vs) (fun k σ' H' => PostN X.K Fa T (I k) σ' H') ⟨r2, G1, Fa, Sa.base, i0⟩ (fun k σ' H' _ ⟨r', G', F', S', _⟩ => .inl (.inl (S'.bas.fh _ _ (S'.bas.ff _ _ z1)))) (fun k x' σ' H' p hx ⟨r', G', F', S', q'⟩ hpn => ?_) fun σ' H' ⟨r', G', F', S', q'⟩ => ?_⟩
    · obtain ⟨d, hd, rd⟩ := z2.getV hx
      exact turnE Sa.bas S' (Rep.mono S'.bas.ff _ _ rd) hpn (it k d r' G' hd q') fun _ _ z => z
    · rw [z2.length] at q'
      exact at_back Sa.bas ⟨r', G', F', S', ie r' G' q'⟩)
end


/-! ### what is walked, as a row of so many turns -/
structure ItS (J : It) (Ok : Hp → Prop) (n : Nat) (Yd : Nat → V → Hp → Hp → Prop) : Prop where
  go : ∀ i H, i < n → Ok H → J.go i H
  stop : ∀ H, Ok H → J.stop n H
  yld : ∀ i H x H', i < n → Ok H → J.yld i H x H' → Yd i x H H'
theorem its_list {K : PySem.W.Frag} {a : Addr} {xs : List V} : ItS (Itl K a) (fun H => SqL K H a xs) xs.length fun i x H H' => H' = H ∧ xs[i]? = some x where
  go := fun i H hi h => ⟨xs, xs[i], h, by simp [hi]⟩
  stop := fun H h => ⟨xs, h, Nat.le_refl _⟩
  yld := fun i H x H' hi h ⟨y1, y2⟩ => ⟨y1, y2 xs h⟩
theorem its_tup {K : PySem.W.Frag} {a : Addr} {xs : List V} : ItS (Itt K a) (fun H => SqT K H a xs) xs.length fun i x H H' => H' = H ∧ xs[i]? = some x where
  go := fun i H hi h => ⟨xs, xs[i], h, by simp [hi]⟩
  stop := fun H h => ⟨xs, h, Nat.le_refl _⟩
  yld := fun i H x H' hi h ⟨y1, y2⟩ => ⟨y1, y2 xs h⟩
theorem its_range {lo : Int} {n : Nat} : ItS (Itr lo n) (fun _ => True) n fun i x H H' => H' = H ∧ x = .int (lo + i) where
  go := fun i H hi _ => hi
  stop := fun H _ => Nat.le_refl _
  yld := fun i H x H' hi _ ⟨y1, y2⟩ => ⟨y1, y2⟩

/-! ### dicts as data -/
def kD : Key → D
  | .inl i => .int i
  | .inr x => .str x
theorem rep_kD {K : PySem.W.Frag} {F : Hp} {k : Key} {v : V} (h : Rep K F (kD k) v) : v = kV k := by
  cases k with
  | inl i => exact h
  | inr x => exact h
def putD (acc : List (Key × D)) (k : Key) (d : D) : List (Key × D) :=
  if (acc.any fun kv => decide (kv.1 = k)) = true then acc.map (fun kv => if kv.1 = k then (kv.1, d) else kv) else acc ++ [(k, d)]
def DRep (K : PySem.W.Frag) (F : Hp) : List (Key × D) → List (Key × V) → Prop
  | [], us => us = []
  | p :: acc, us => ∃ u us', us = u :: us' ∧ u.1 = p.1 ∧ Rep K F p.2 u.2 ∧ DRep K F acc us'
theorem DRep.mono {K : PySem.W.Frag} {F F' : Hp} (e : Ex F F') : ∀ {acc : List (Key × D)} {us : List (Key × V)}, DRep K F acc us → DRep K F' acc us
  | [], _, h => h
  | p :: acc, _, ⟨u, us', h1, h2, h3, h4⟩ => ⟨u, us', h1, h2, Rep.mono e _ _ h3, h4.mono e⟩
theorem DRep.length {K : PySem.W.Frag} {F : Hp} : ∀ {acc : List (Key × D)} {us : List (Key × V)}, DRep K F acc us → us.length = acc.length
  | [], _, h => by rw [show _ = [] from h]; rfl
  | p :: acc, _, ⟨u, us', h1, h2, h3, h4⟩ => by rw [h1, List.length_cons, List.length_cons, h4.length]
theorem DRep.keys {K : PySem.W.Frag} {F : Hp} : ∀ {acc : List (Key × D)} {us : List (Key × V)}, DRep K F acc us → us.map (·.1) = acc.map (·.1)
  | [], _, h => by rw [show _ = [] from h]; rfl
  | p :: acc, _, ⟨u, us', h1, h2, h3, h4⟩ => by rw [h1, List.map_cons, List.map_cons, h4.keys, h2]
theorem DRep.vals {K : PySem.W.Frag} {F : Hp} : ∀ {acc : List (Key × D)} {us : List (Key × V)}, DRep K F acc us → RepL K F (acc.map (·.2)) (us.map (·.2))
  | [], _, h => by rw [show _ = [] from h]; rfl
  | p :: acc, _, ⟨u, us', h1, h2, h3, h4⟩ => by subst h1; exact ⟨u.2, us'.map (·.2), rfl, h3, h4.vals⟩
theorem DRep.of {K : PySem.W.Frag} {F : Hp} : ∀ {ks : List Key} {ds : List D} {vs : List V}, ks.length = ds.length → RepL K F ds vs → DRep K F (ks.zip ds) (ks.zip vs)
  | [], _, _, _, _ => by rw [List.zip_nil_left, List.zip_nil_left]; rfl
  | k :: ks, [], _, h, _ => by simp at h
  | k :: ks, d :: ds, _, h, ⟨v, vs', h1, h2, h3⟩ => by subst h1; exact ⟨(k, v), ks.zip vs', rfl, rfl, h2, DRep.of (by simpa using h) h3⟩
theorem DRep.append {K : PySem.W.Frag} {F : Hp} : ∀ {acc bcc : List (Key × D)} {us ws : List (Key × V)}, DRep K F acc us → DRep K F bcc ws → DRep K F (acc ++ bcc) (us ++ ws)
  | [], _, _, _, h, h' => by rw [show _ = [] from h]; exact h'
  | p :: acc, _, _, _, ⟨u, us', h1, h2, h3, h4⟩, h' => by subst h1; exact ⟨u, us' ++ _, rfl, h2, h3, h4.append h'⟩
theorem DRep.any {K : PySem.W.Frag} {F : Hp} (k : Key) : ∀ {acc : List (Key × D)} {us : List (Key × V)}, DRep K F acc us → (us.any fun kv => decide (kv.1 = k)) = acc.any fun kv => decide (kv.1 = k)
  | [], _, h => by rw [show _ = [] from h]; rfl
  | p :: acc, _, ⟨u, us', h1, h2, h3, h4⟩ => by subst h1; rw [List.any_cons, List.any_cons, h4.any k, h2]
theorem DRep.over {K : PySem.W.Frag} {F : Hp} {k : Key} {d : D} {v : V} (hv : Rep K F d v) : ∀ {acc : List (Key × D)} {us : List (Key × V)}, DRep K F acc us → DRep K F (acc.map fun kv => if kv.1 = k then (kv.1, d) else kv) (us.map fun kv => if kv.1 = k then (kv.1, v) else kv)
  | [], _, h => by rw [show _ = [] from h]; rfl
  | p :: acc, _, ⟨u, us', h1, h2, h3, h4⟩ => by
    subst h1
    refine ⟨_, _, List.map_cons, ?_, ?_, h4.over hv⟩
    · dsimp only
      rw [h2]
      by_cases hk : p.1 = k
      · rw [if_pos hk, if_pos hk]
      · rw [if_neg hk, if_neg hk]; exact h2
    · dsimp only
      rw [h2]
      by_cases hk : p.1 = k
      · rw [if_pos hk, if_pos hk]; exact hv
      · rw [if_neg hk, if_neg hk]; exact h3
theorem DRep.put {K : PySem.W.Frag} {F : Hp} {k : Key} {d : D} {v : V} {acc : List (Key × D)} {us : List (Key × V)} (h : DRep K F acc us) (hv : Rep K F d v) : DRep K F (putD acc k d) (putK us k v) := by
  unfold putD putK
  rw [h.any k]
  by_cases hk : (acc.any fun kv => decide (kv.1 = k)) = true
  · rw [if_pos hk, if_pos hk]; exact h.over hv
  · rw [if_neg hk, if_neg hk]; exact h.append ⟨(k, v), [], rfl, rfl, hv, rfl⟩
theorem zip_maps {α β : Type} : ∀ us : List (α × β), (us.map (·.1)).zip (us.map (·.2)) = us
  | [] => rfl
  | u :: us => by rw [List.map_cons, List.map_cons, List.zip_cons_cons, zip_maps us]
def dicD (acc : List (Key × D)) : D := .dic (acc.map (·.1)) (acc.map (·.2))
theorem own_dicD {K : PySem.W.Frag} {F H : Hp} {p : Addr} {acc : List (Key × D)} {us : List (Key × V)} (h : DRep K F acc us) (hp : H p = some (.dK us)) : Own K F H p (dicD acc) := by
  refine ⟨us.map (·.2), ?_, by rw [List.length_map, List.length_map], h.vals⟩
  rw [← h.keys, zip_maps]
  exact hp
section
variable {X : Cx} {e a b c o tg kx vx : Expr} {es : List Expr} {st : Stmt} {sts rest body orelse : List Stmt} {r : Env2} {G : Hp} {pos tpos p0 : Pos} {D0 : EndsD}
/-! ### dict comprehensions -/
def DcTurn (X : Cx) (scope : Scope) (tg kx vx : Expr) (ifs : List Expr) (is : List Nat) (d : D) (acc : List (Key × D)) (r : Env2) (G : Hp) (Nx : List (Key × D) → Env2 → Hp → Prop) : Prop :=
  ∀ Y, BlkX X scope Y → WG Y tg d r G is fun r1 G1 => match ifs with
    | [] => ∀ Y, BlkX X scope Y → WE Y kx r1 G1 fun z r2 G2 => ∃ k, z = .sh (kD k) ∧ ∀ Y, BlkX X scope Y → WE Y vx r2 G2 fun z' r3 G3 => ∃ d' r4, fz r3 z' = some (d', r4) ∧ acc.length < LIM ∧ Nx (putD acc k d') (wipeD r4 is) G3
    | [c] => ∀ Y, BlkX X scope Y → WT Y c r1 G1 fun b r2 G2 => (b = true → ∀ Y, BlkX X scope Y → WE Y kx r2 G2 fun z r3 G3 => ∃ k, z = .sh (kD k) ∧ ∀ Y, BlkX X scope Y → WE Y vx r3 G3 fun z' r4 G4 => ∃ d' r5, fz r4 z' = some (d', r5) ∧ acc.length < LIM ∧ Nx (putD acc k d') (wipeD r5 is) G4) ∧ (b = false → Nx acc (wipeD r2 is) G2)
    | _ => False
theorem dc_turn {scope : Scope}  {ifs : List Expr} {is : List Nat} {d : D} {acc : List (Key × D)} {Nx : List (Key × D) → Env2 → Hp → Prop} {F0 T F H : Hp} {σ : L2.St} {v : V} {L : Addr} {us : List (Key × V)}
    (S : Sta X.K F0 (upd T L (.dK us)) F G H r (L2.wipe σ is)) (hT : T L = none) (h0 : F0 L = none) (ha : DRep X.K F0 acc us) (rp : Rep X.K F d v) (h : DcTurn X scope tg kx vx ifs is d acc r G Nx) {Pn : Hp → Prop}
    (hN : ∀ acc' us' r' G' F' H', Nx acc' r' G' → DRep X.K F' acc' us' → Sta X.K F0 (upd T L (.dK us')) F' G' H' r' (L2.wipe σ is) → Pn H') :
    blkG X scope tg v (L2.wipe σ is) H fun σ2 H2 => L2.wipe σ2 is = L2.wipe σ is ∧ blkT X scope ifs σ2 H2 fun b H3 =>
      if b = true then blkE X scope kx σ2 H3 fun y H4 => blkE X scope vx σ2 H4 fun z H5 => ∃ kvs k, y = kV k ∧ H5 L = some (.dK kvs) ∧ kvs.length < sizeLine ∧ Pn (upd H5 L (.dK (putK kvs k z))) else Pn H3 := by
  have wi : L2.wipe (L2.wipe σ is) is = L2.wipe σ is := by
    have aux : ∀ (js : List Nat) (τ : L2.St), (∀ j ∈ js, ∀ x, τ[j]? = some x → x = none) → L2.wipe τ js = τ := by
      intro js
      induction js with
      | nil => intro τ _; rfl
      | cons j js ih =>
        intro τ hτ
        unfold L2.wipe
        rw [ih τ fun k hk => hτ k (List.mem_cons_of_mem _ hk)]
        refine List.ext_getElem? fun k => ?_
        by_cases hjk : j = k
        · subst hjk
          by_cases hl : j < τ.length
          · rw [List.getElem?_set_self hl]
            cases e : τ[j]? with
            | none => rw [List.getElem?_eq_none_iff] at e; omega
            | some x => rw [hτ j List.mem_cons_self x e]
          · rw [List.getElem?_eq_none (by rw [List.length_set]; omega), List.getElem?_eq_none (by omega)]
        · rw [List.getElem?_set_ne hjk]
    refine aux is _ fun j hj x hx => ?_
    cases x with
    | none => rfl
    | some y => exact absurd hj (wipe_some hx).2
  have fin : ∀ (F2 G2 H4 : Hp) (r2 r3 : Env2) (σ2 : L2.St) (z : Res) (y : V) (k : Key) (d' : D), L2.wipe σ2 is = L2.wipe σ is → Sta X.K F0 (upd T L (.dK us)) F2 G2 H4 r2 σ2 → ResOk X.K (upd T L (.dK us)) F2 G2 H4 r2 σ2 z y → fz r2 z = some (d', r3) → acc.length < LIM → Nx (putD acc k d') (wipeD r3 is) G2 →
      ∃ kvs k', kV k = kV k' ∧ H4 L = some (.dK kvs) ∧ kvs.length < sizeLine ∧ Pn (upd H4 L (.dK (putK kvs k' y))) := fun F2 G2 H4 r2 r3 σ2 z y k d' hw S2 k2 q1 q2 q3 => by
    obtain ⟨F3, e3, S3, rp3⟩ := S2.fz k2 q1
    have hL : H4 L = some (.dK us) := S3.bas.tk L _ upd_same
    have ha3 : DRep X.K F3 acc us := DRep.mono S3.bas.ff ha
    have fL : F3 L = none := by
      cases e : F3 L with
      | none => rfl
      | some u =>
        rcases S3.bas.ft L u e with zz | zz
        · rw [h0] at zz; cases zz
        · rw [upd_same] at zz; cases zz
    have gL : G2 L = none := by
      cases e : G2 L with
      | none => rfl
      | some u => have zz := S3.bas.gt L u e; rw [upd_same] at zz; cases zz
    refine ⟨us, k, rfl, hL, by rw [ha3.length]; exact lim_lt q2, hN _ (putK us k y) _ G2 F3 _ q3 (ha3.put rp3) ?_⟩
    have Sw := S3.wipe is hw
    refine ⟨⟨Sw.bas.ff, fun q u hq => ?_, fun q u hq => ?_, fun q u hq => ?_, Sw.bas.fg, fun q u hq => ?_, fun q u hq => ?_⟩, Sw.len, fun i s hs => ?_, Sw.ap⟩
    · have hqL : q ≠ L := fun zz => by subst zz; rw [fL] at hq; cases hq
      have := Sw.bas.ft q u hq
      rw [upd_ne hqL] at this ⊢
      exact this
    · have hqL : q ≠ L := fun zz => by subst zz; rw [fL] at hq; cases hq
      rw [upd_ne hqL]; exact Sw.bas.fh q u hq
    · have hqL : q ≠ L := fun zz => by subst zz; rw [gL] at hq; cases hq
      rw [upd_ne hqL]; exact Sw.bas.gh q u hq
    · have hqL : q ≠ L := fun zz => by subst zz; rw [gL] at hq; cases hq
      have := Sw.bas.gt q u hq
      rw [upd_ne hqL] at this ⊢
      exact this
    · by_cases hqL : q = L
      · subst hqL; rw [upd_same] at hq ⊢; exact hq
      · rw [upd_ne hqL] at hq ⊢
        exact Sw.bas.tk q u (by rw [upd_ne hqL]; exact hq)
    · have hh := Sw.sl i s hs
      cases s with
      | no => trivial
      | sh d => exact hh
      | own d =>
        obtain ⟨p, k1, k3, k4, k5, k6⟩ := hh
        have hpL : p ≠ L := fun zz => by subst zz; rw [upd_same] at k6; cases k6
        rw [upd_ne hpL] at k6
        exact ⟨p, k1, k3.mono (Ex.refl _) (fun u hu => by rw [upd_ne hpL]; exact hu), k4, k5, by rw [upd_ne hpL]; exact k6⟩
  intro Y hY pins s u I rv
  have hYK : Y.K = X.K := hY.k
  have h' := h Y hY
  unfold WG at h'
  rw [hYK] at h'
  refine wpAny_mono (h' F0 (upd T L (.dK us)) F H (L2.wipe σ is) v S rp pins s u I rv) (fun _ s' ⟨σ', H', I', hw, r', G', F', e', S', q⟩ => ⟨σ', H', I', hw.trans wi, ?_⟩) fun _ _ x => x
  have hw' := hw.trans wi
  match ifs, q with
  | [], q =>
    unfold blkT
    dsimp only
    rw [if_pos rfl]
    intro Z hZ
    have q' := q Z hZ
    unfold WE at q'
    rw [hZ.k] at q'
    refine (q' F0 _ F' H' σ' S').mono fun y H4 ⟨z, r2, G2, F2, e2, S2, k2, k, hz, m1⟩ => ?_
    subst hz
    cases rep_kD (K := X.K) k2
    intro W hW
    have q2 := m1 W hW
    unfold WE at q2
    rw [hW.k] at q2
    exact (q2 F0 _ F2 H4 σ' S2).mono fun u H5 ⟨z', r3, G3, F3, e3, S3, k3, d', r4, n1, n2, n3⟩ => fin F3 G3 H5 r3 r4 σ' z' u k d' hw' S3 k3 n1 n2 n3
  | [c], q =>
    intro Z hZ
    have q' := q Z hZ
    unfold WT at q'
    rw [hZ.k] at q'
    refine (q' F0 _ F' H' σ' S').mono fun b H3 ⟨r2, G2, F2, e2, S2, m1, m2⟩ => ?_
    cases b with
    | true =>
      rw [if_pos rfl]
      intro W hW
      have q2 := m1 rfl W hW
      unfold WE at q2
      rw [hW.k] at q2
      refine (q2 F0 _ F2 H3 σ' S2).mono fun y H4 ⟨z, r3, G3, F3, e3, S3, k3, k, hz, n1⟩ => ?_
      subst hz
      cases rep_kD (K := X.K) k3
      intro V hV
      have q3 := n1 V hV
      unfold WE at q3
      rw [hV.k] at q3
      exact (q3 F0 _ F3 H4 σ' S3).mono fun u H5 ⟨z', r4, G4, F4, e4, S4, k4, d', r5, p1, p2, p3⟩ => fin F4 G4 H5 r4 r5 σ' z' u k d' hw' S4 k4 p1 p2 p3
    | false =>
      rw [if_neg Bool.false_ne_true]
      exact hN acc us _ G2 F2 H3 (m2 rfl) (DRep.mono S2.bas.ff ha) (S2.wipe is hw')
  | _ :: _ :: _, q => exact q.elim

/-- what a comprehension's loop keeps -/
def DcInv (K : PySem.W.Frag) (T Fa : Hp) (τ : L2.St) (L : Addr) (I : List (Key × D) → Env2 → Hp → Prop) : Hp → Prop := fun H' =>
  ∃ acc us r' G' F', DRep K F' acc us ∧ Sta K Fa (upd T L (.dK us)) F' G' H' r' τ ∧ I acc r' G'
theorem dc_begin {K : PySem.W.Frag} {F0 T F H : Hp} {σ : L2.St} {is : List Nat} {L : Addr} {I : List (Key × D) → Env2 → Hp → Prop} (S : Sta K F0 T F G H r σ) (hL : H L = none) (h0 : I [] (wipeD r is) G) : DcInv K T F (L2.wipe σ is) L I (upd H L (.dK [])) := by
  obtain ⟨f1, f2, f3⟩ := S.bas.freshF hL
  have Sb := (S.newH (o := .dK []) hL).base.wipe (σ := σ) is rfl
  refine ⟨[], [], _, G, F, rfl, ⟨⟨Sb.bas.ff, fun q u hq => .inl hq, Sb.bas.fh, Sb.bas.gh, Sb.bas.fg, fun q u hq => ?_, fun q u hq => ?_⟩, Sb.len, fun i s hs => ?_, Sb.ap⟩, h0⟩
  · have hq' : q ≠ L := fun z => by subst z; rw [f2] at hq; cases hq
    rw [upd_ne hq']; exact Sb.bas.gt q u hq
  · by_cases hq' : q = L
    · subst hq'; rw [upd_same] at hq ⊢; exact hq
    · rw [upd_ne hq'] at hq; exact Sb.bas.tk q u hq
  · have hh := Sb.sl i s hs
    cases s with
    | no => trivial
    | sh d => exact hh
    | own d =>
      obtain ⟨p, k1, k2, k3, k4, k5⟩ := hh
      have hp : p ≠ L := fun z => by
        subst z
        by_cases hi : i ∈ is
        · have : (L2.wipe σ is)[i]? ≠ some (some (V.ref p)) := fun z => (wipe_some z).2 hi
          exact this k1
        · have e := (wipe_some k1).1
          have hr : r[i]? = some (.own d) := by
            have aux : ∀ (js : List Nat), i ∉ js → (wipeD r js)[i]? = r[i]? := by
              intro js
              induction js with
              | nil => intro _; rfl
              | cons j js ih =>
                intro hj
                unfold wipeD
                rw [List.getElem?_set_ne (fun z => hj (by rw [z]; exact List.mem_cons_self)), ih (fun z => hj (List.mem_cons_of_mem _ z))]
            rw [aux is hi] at hs
            exact hs
          exact S.freshR hL i d hr e
      exact ⟨p, k1, k2, k3, k4, by rw [upd_ne hp]; exact k5⟩
theorem dc_end {K : PySem.W.Frag} {F0 T Fa Ga Ha H' : Hp} {σ : L2.St} {is : List Nat} {L : Addr} {I : List (Key × D) → Env2 → Hp → Prop} {Q : Res → Env2 → Hp → Prop} (B : Bas F0 T Fa Ga Ha) (hL : Ha L = none) (hσ : Wk r (wipeD r is)) (S0 : Sta K F0 T Fa Ga Ha r σ) (h : DcInv K T Fa (L2.wipe σ is) L I H') (he : ∀ acc r' G', I acc r' G' → Q (.fr (dicD acc)) r' G') :
    PostE K F0 T Fa σ Q (.ref L) H' := by
  obtain ⟨acc, us, r', G', F', ha, S, q⟩ := h
  obtain ⟨f1, f2, f3⟩ := B.freshF hL
  have fL : F' L = none := by
    cases e : F' L with
    | none => rfl
    | some u =>
      rcases S.bas.ft L u e with zz | zz
      · rw [f1] at zz; cases zz
      · rw [upd_same] at zz; cases zz
  have gL : G' L = none := by
    cases e : G' L with
    | none => rfl
    | some u => have zz := S.bas.gt L u e; rw [upd_same] at zz; cases zz
  have tsub : ∀ q u, T q = some u → upd T L (.dK us) q = some u := fun q u hq => by
    have hqL : q ≠ L := fun zz => by subst zz; rw [f3] at hq; cases hq
    rw [upd_ne hqL]; exact hq
  have tdown : ∀ q, upd T L (.dK us) q = none → T q = none := fun q hq => by
    cases hf : T q with
    | none => rfl
    | some u => rw [tsub q u hf] at hq; cases hq
  have slots : ∀ (i : Nat) (s : Sl), r'[i]? = some s → SlotOk K T F' G' H' s σ[i]? := fun i s hs => by
    have hh := S.sl i s hs
    cases s with
    | no => trivial
    | sh d => obtain ⟨v, k1, k2⟩ := hh; exact ⟨v, (wipe_some k1).1, k2⟩
    | own d => obtain ⟨p, k1, k2, k3, k4, k5⟩ := hh; exact ⟨p, (wipe_some k1).1, k2, k3, k4, tdown p k5⟩
  have St : Sta K F0 T F' G' H' r' σ := by
    refine ⟨⟨B.ff.trans S.bas.ff, fun q u hq => ?_, S.bas.fh, S.bas.gh, S.bas.fg, fun q u hq => tdown q (S.bas.gt q u hq), fun q u hq => S.bas.tk q u (tsub q u hq)⟩, by rw [S.len, wipe_length], slots, fun i j d e hij hi hj z => ?_⟩
    · rcases S.bas.ft q u hq with zz | zz
      · exact B.ft q u zz
      · exact .inr (tdown q zz)
    · obtain ⟨p, k1, _⟩ := S.ownS hi
      obtain ⟨p2, m1, _⟩ := S.ownS hj
      refine S.ap i j d e hij hi hj ?_
      rw [(wipe_some k1).1, (wipe_some m1).1] at z
      rw [k1, m1, z]
  refine ⟨.fr (dicD acc), r', G', F', S.bas.ff, St, ⟨L, rfl, own_dicD ha (S.bas.tk L _ upd_same), fL, gL, f3, fun i d hi z => ?_⟩, he acc r' G' q⟩
  obtain ⟨p, k1, _, _, _, k5⟩ := S.ownS hi
  have e1 := (wipe_some k1).1
  rw [e1] at z; cases z
  rw [upd_same] at k5; cases k5
/-- one step of a comprehension over items -/
theorem dc_step {scope : Scope}  {ifs : List Expr} {is : List Nat} {d : D} {T Fa : Hp} {H' : Hp} {σ : L2.St} {v : V} {L : Addr} {I J : List (Key × D) → Env2 → Hp → Prop} (hL : Fa L = none) (hT : T L = none) (h : DcInv X.K T Fa (L2.wipe σ is) L I H') (rp : Rep X.K Fa d v)
    (hs : ∀ acc r' G', I acc r' G' → DcTurn X scope tg kx vx ifs is d acc r' G' J) :
    blkG X scope tg v (L2.wipe σ is) H' fun σ2 H2 => L2.wipe σ2 is = L2.wipe σ is ∧ blkT X scope ifs σ2 H2 fun b H3 =>
      if b = true then blkE X scope kx σ2 H3 fun y H4 => blkE X scope vx σ2 H4 fun z H5 => ∃ kvs k, y = kV k ∧ H5 L = some (.dK kvs) ∧ kvs.length < sizeLine ∧ DcInv X.K T Fa (L2.wipe σ is) L J (upd H5 L (.dK (putK kvs k z))) else DcInv X.K T Fa (L2.wipe σ is) L J H3 := by
  obtain ⟨acc, us, r', G', F', ha, S, q⟩ := h
  have fL : F' L = none := by
    cases e : F' L with
    | none => rfl
    | some u =>
      rcases S.bas.ft L u e with zz | zz
      · rw [hL] at zz; cases zz
      · rw [upd_same] at zz; cases zz
  refine dc_turn S.base hT fL ha (Rep.mono S.bas.ff _ _ rp) (hs acc r' G' q) fun acc' us' r2 G2 F2 H2 q2 ha2 S2 => ?_
  have gL : G2 L = none := by
    cases e : G2 L with
    | none => rfl
    | some u => have zz := S2.bas.gt L u e; rw [upd_same] at zz; cases zz
  refine ⟨acc', us', r2, G2, F2, ha2, ⟨⟨S.bas.ff.trans S2.bas.ff, fun q u hq => ?_, S2.bas.fh, S2.bas.gh, S2.bas.fg, S2.bas.gt, S2.bas.tk⟩, S2.len, S2.sl, S2.ap⟩, q2⟩
  rcases S2.bas.ft q u hq with zz | zz
  · rcases S.bas.ft q u zz with yy | yy
    · exact .inl yy
    · by_cases hqL : q = L
      · subst hqL; rw [fL] at zz; cases zz
      · rw [upd_ne hqL] at yy ⊢; exact .inr yy
  · exact .inr zz
/-- over a row of turns -/
theorem dc_seq {J : It} {Ok : Hp → Prop} {n : Nat} {Yd : Nat → V → Hp → Hp → Prop} (hJ : ItS J Ok n Yd) {g : TG} {tt : TT} {tk tv : TE} {vs : List Nat} {σ : L2.St} {H1 : Hp} {L : Addr} {Qd : Hp → Prop} (Pv : Nat → Hp → Prop) (h0 : Pv 0 (upd H1 L (.dK []))) (hl : ∀ i H, i ≤ n → Pv i H → Ok H)
    (hs : ∀ i x H H', i < n → Pv i H → Yd i x H H' → g x (L2.wipe σ vs) H' fun σ2 H2 => L2.wipe σ2 vs = L2.wipe σ vs ∧ tt σ2 H2 fun b H3 =>
      if b = true then tk σ2 H3 fun y H4 => tv σ2 H4 fun z H5 => ∃ kvs k, y = kV k ∧ H5 L = some (.dK kvs) ∧ kvs.length < sizeLine ∧ Pv (i + 1) (upd H5 L (.dK (putK kvs k z))) else Pv (i + 1) H3) (hd : ∀ H, Pv n H → Qd H) :
    ∃ W : Nat → Nat → Hp → Prop, (∃ m, W 0 m (upd H1 L (.dK []))) ∧ ∀ i m H, W i m H →
      (J.stop i H ∧ Qd H) ∨ (J.go i H ∧ ∃ Nx : Hp → Prop, (∀ H', Nx H' → ∃ m', m' < m ∧ W (i + 1) m' H') ∧ ∀ x H', J.yld i H x H' → g x (L2.wipe σ vs) H' fun σ2 H2 => L2.wipe σ2 vs = L2.wipe σ vs ∧ tt σ2 H2 fun b H3 =>
        if b = true then tk σ2 H3 fun y H4 => tv σ2 H4 fun z H5 => ∃ kvs k, y = kV k ∧ H5 L = some (.dK kvs) ∧ kvs.length < sizeLine ∧ Nx (upd H5 L (.dK (putK kvs k z))) else Nx H3) := by
  refine ⟨fun i m H => m = n - i ∧ i ≤ n ∧ Pv i H, ⟨n, rfl, Nat.zero_le _, h0⟩, fun i m H ⟨hm, hi, p⟩ => ?_⟩
  have q := hl i H hi p
  rcases Nat.lt_or_ge i n with hlt | hge
  · exact .inr ⟨hJ.go i H hlt q, Pv (i + 1), fun H' p' => ⟨n - (i + 1), by omega, rfl, hlt, p'⟩, fun x H' y => hs i x H H' hlt p (hJ.yld i H x H' hlt q y)⟩
  · obtain rfl : i = n := by omega
    exact .inl ⟨hJ.stop H q, hd H p⟩
theorem we_dcL {scope : Scope} {ifs : List Expr} (own : List (Str × Nat)) {Q : Res → Env2 → Hp → Prop} (hc : X.calm = true) (hN : X.N.Nodup) (ok : BlkOk X.N X.env.scope scope own)
    (h : WE X e r G fun x r1 G1 => ∃ ds r2, fz r1 x = some (.lst ds, r2) ∧ ∃ I : Nat → List (Key × D) → Env2 → Hp → Prop, I 0 [] (wipeD r2 (own.map (·.2))) G1 ∧ (∀ (k : Nat) (d : D) (acc : List (Key × D)) (r3 : Env2) (G3 : Hp), ds[k]? = some d → I k acc r3 G3 → DcTurn X scope tg kx vx ifs (own.map (·.2)) d acc r3 G3 (I (k + 1))) ∧
      ∀ acc r3 G3, I ds.length acc r3 G3 → Q (.fr (dicD acc)) r3 G3) (hs : ∀ x, foldedSetIterable e X.env x = pure x := by intro _; rfl) : WE X (.DictComp kx vx [⟨tg, e, ifs, 0⟩] scope pos) r G Q := fun F0 T F H σ S =>
  Run.of (pe_dc hc hN (pi_list peR) ok blkG_ok blkT_ok blkE_ok blkE_ok hs) (by
    refine (h F0 T F H σ S).mono fun v H1 ⟨x, r1, G1, F1, e1, S1, k1, ds, r2, q1, I, i0, it, ie⟩ => ?_
    obtain ⟨Fa, e2, Sa, rp⟩ := S1.fz k1 q1
    obtain ⟨a, vs, rfl, z1, z2⟩ := rp
    refine ⟨a, rfl, ⟨vs, .inl (.inl (Sa.bas.fh _ _ z1))⟩, fun L hL => ?_⟩
    obtain ⟨f1, f2, f3⟩ := Sa.bas.freshF hL
    refine dc_seq (its_list (xs := vs)) (fun k H' => DcInv X.K T Fa (L2.wipe σ (own.map (·.2))) L (I k) H') (dc_begin Sa hL i0) (fun k H' _ ⟨_, _, _, _, _, _, S', _⟩ => .inl (.inl (S'.bas.fh _ _ (S'.bas.ff _ _ z1)))) (fun k x' H' H'' hk hI ⟨y1, hx⟩ => ?_) fun H' hI => ?_
    · subst y1
      obtain ⟨d, hd, rd⟩ := z2.getV hx
      exact dc_step f1 f3 hI rd fun acc r' G' q => it k d acc r' G' hd q
    · rw [z2.length] at hI
      exact (dc_end Sa.bas hL (wk_wipe _ _) Sa hI fun acc r' G' q => ie acc r' G' q).ext (e1.trans e2))
theorem we_dcT {scope : Scope} {ifs : List Expr} (own : List (Str × Nat)) {Q : Res → Env2 → Hp → Prop} (hc : X.calm = true) (hN : X.N.Nodup) (ok : BlkOk X.N X.env.scope scope own)
    (h : WE X e r G fun x r1 G1 => ∃ ds r2, fz r1 x = some (.tup ds, r2) ∧ ∃ I : Nat → List (Key × D) → Env2 → Hp → Prop, I 0 [] (wipeD r2 (own.map (·.2))) G1 ∧ (∀ (k : Nat) (d : D) (acc : List (Key × D)) (r3 : Env2) (G3 : Hp), ds[k]? = some d → I k acc r3 G3 → DcTurn X scope tg kx vx ifs (own.map (·.2)) d acc r3 G3 (I (k + 1))) ∧
      ∀ acc r3 G3, I ds.length acc r3 G3 → Q (.fr (dicD acc)) r3 G3) (hs : ∀ x, foldedSetIterable e X.env x = pure x := by intro _; rfl) : WE X (.DictComp kx vx [⟨tg, e, ifs, 0⟩] scope pos) r G Q := fun F0 T F H σ S =>
  Run.of (pe_dc hc hN (pi_tup peR) ok blkG_ok blkT_ok blkE_ok blkE_ok hs) (by
    refine (h F0 T F H σ S).mono fun v H1 ⟨x, r1, G1, F1, e1, S1, k1, ds, r2, q1, I, i0, it, ie⟩ => ?_
    obtain ⟨Fa, e2, Sa, rp⟩ := S1.fz k1 q1
    obtain ⟨a, vs, rfl, z1, z2⟩ := rp
    refine ⟨a, rfl, ⟨vs, Sa.bas.fh.sqT z1⟩, fun L hL => ?_⟩
    obtain ⟨f1, f2, f3⟩ := Sa.bas.freshF hL
    refine dc_seq (its_tup (xs := vs)) (fun k H' => DcInv X.K T Fa (L2.wipe σ (own.map (·.2))) L (I k) H') (dc_begin Sa hL i0) (fun k H' _ ⟨_, _, _, _, _, _, S', _⟩ => S'.bas.fh.sqT (S'.bas.ff.sqT z1)) (fun k x' H' H'' hk hI ⟨y1, hx⟩ => ?_) fun H' hI => ?_
    · subst y1
      obtain ⟨d, hd, rd⟩ := z2.getV hx
      exact dc_step f1 f3 hI rd fun acc r' G' q => it k d acc r' G' hd q
    · rw [z2.length] at hI
      exact (dc_end Sa.bas hL (wk_wipe _ _) Sa hI fun acc r' G' q => ie acc r' G' q).ext (e1.trans e2))
end


/-! ### t[::-1] -/
section
variable {prog : Program} {w : World} {A : Around} {E : Value → Shared → Prop} {s : Shared}
theorem applied_rev {sl : Addr} {vk : Value} {n : Nat} {Q : Int × Int × Nat → Shared → Prop} (hs : s.heap.IsSliceOf sl .none .none vk) (pk : IsPart vk (some (-1)))
    (h : Q ((n : Int) - 1, -1, n) s) : wpAny (model prog w) A (Builtin.Slice.sliceApplied (.ref sl) (pure (n : Int))) Q E s := by
  obtain ⟨os, hos, hcs, hds⟩ := id hs
  unfold Builtin.Slice.sliceApplied Builtin.Slice.sliceFields
  refine wpAny_bind (wpAny_bind (wpAny_field hos hds (x := .none) rfl (wpAny_bind (wpAny_field hos hds (x := .none) rfl (wpAny_bind (wpAny_field hos hds (x := vk) rfl (wpAny_pure ?_)))))))
  refine wpAny_bind (HT.slicePart_ pk ?_)
  show wpAny _ _ (if ((-1 : Int) == 0) = true then _ else _) _ _ s
  rw [if_neg (by decide)]
  refine wpAny_bind (HT.slicePart_ .none (wpAny_bind (HT.slicePart_ .none (wpAny_bind (wpAny_pure ?_)))))
  have e : Builtin.Slice.slicePlaces ((n : Int) - 1) (-1) (-1) = n := by
    unfold Builtin.Slice.slicePlaces
    rw [if_neg (by decide)]
    by_cases h : (n : Int) - 1 > -1
    · rw [if_pos h, show (- -1 : Int) = 1 from rfl, Int.ediv_one]
      omega
    · rw [if_neg h]
      omega
  show wpAny _ _ (pure ((n : Int) - 1, (-1 : Int), Builtin.Slice.slicePlaces ((n : Int) - 1) (-1) (-1))) _ _ s
  rw [e]
  exact wpAny_pure h
theorem pick_rev (xs : Array Value) : ((List.range xs.size).filterMap fun (m : Nat) => xs[((xs.size : Int) - 1 + (m : Int) * -1).toNat]?).toArray = xs.toList.reverse.toArray := by
  rw [← PySem.W.krv_all, ← List.filterMap_reverse, ← PySem.W.krv_range, List.filterMap_map]
  congr 1
  have key : ∀ l : List Nat, (∀ m ∈ l, m < xs.size) → l.filterMap (fun (m : Nat) => xs[((xs.size : Int) - 1 + (m : Int) * -1).toNat]?) = l.filterMap ((fun i => xs[i]?) ∘ fun k => xs.size - 1 - k) := by
    intro l
    induction l with
    | nil => intro _; rfl
    | cons m l ih =>
      intro h
      have hm := h m List.mem_cons_self
      have e : ((xs.size : Int) - 1 + (m : Int) * -1).toNat = xs.size - 1 - m := by omega
      rw [List.filterMap_cons, List.filterMap_cons, ih fun k hk => h k (List.mem_cons_of_mem _ hk), e]
      rfl
  exact key _ fun m hm => List.mem_range.mp hm
theorem getItem_rev {t sl : Addr} {items : Array Value} {vk : Value} {Q : Value → Shared → Prop} (ht : IsTup s.heap t items) (hs : s.heap.IsSliceOf sl .none .none vk) (pk : IsPart vk (some (-1)))
    (h : Q (.ref s.heap.objs.size) { s with heap := s.heap.push { cls := .type "tuple", data := .seq items.toList.reverse.toArray } })
    (hsz : items.size ≤ sizeLine) : wpAny (model prog w) A (getItem (.ref t) (.ref sl)) Q E s := by
  have htake : sizeOk (.seq items.toList.reverse.toArray) := by
    show items.toList.reverse.toArray.size ≤ sizeLine
    rw [List.size_toArray, List.length_reverse, Array.length_toList]
    exact hsz
  obtain ⟨os, hos, hcs, hds⟩ := id hs
  have hTs : s.TypeIs (.ref sl) "slice" := ⟨os, hos, hcs⟩
  unfold getItem
  try with_reducible refine wpAny_holding ?_
  first | refine wpAny_bind (wpAny_pure ?_) | skip
  refine wpAny_bind (wpAny_sequenceKey ht.typeIs (by decide) ?_)
  refine wpAny_bind (wpAny_callSpecial?_slot (name := Str.ofString "__getitem__") ht.typeIs PyProof.Rows.slot_tuple_getitem
    (wpAny_call_entry PyProof.Rows.slot_tuple_getitem ht.typeIs entry_tuple_getitem ?_ (args_tuple_getitem _ _)))
  show wpAny _ _ (Builtin.Tuple.tupleItemsOf (.ref t) >>= _) _ _ s
  refine wpAny_bind (tupleItemsOf_ ht ?_)
  refine wpAny_bind (wpAny_typeOf hTs ?_)
  rw [if_pos (by decide)]
  refine wpAny_bind (applied_rev hs pk ?_)
  show wpAny _ _ (if (((items.size : Int) - 1) == 0 && (-1 : Int) == 1 && items.size == items.size) = true then _ else _) _ _ s
  rw [if_neg (by simp), pick_rev]
  first
    | exact wpAny_bind (m := Builtin.Tuple.tupleExact _) (wpAny_newObj_type (wpAny_pure ⟨_, rfl, wpAny_pure h⟩) htake)
    | exact wpAny_bind (m := Builtin.Tuple.tupleExact _) (wpAny_newObj_type (wpAny_bind (wpAny_pure (wpAny_pure ⟨_, rfl, wpAny_pure h⟩))) htake)
    | exact wpAny_bind (wpAny_bind (m := Builtin.Tuple.tupleExact _) (wpAny_newObj_type (wpAny_pure (wpAny_pure ⟨_, rfl, wpAny_pure h⟩)) htake))
    | exact wpAny_bind (wpAny_bind (m := Builtin.Tuple.tupleExact _) (wpAny_newObj_type (wpAny_pure ⟨_, rfl, wpAny_pure h⟩) htake))
end
section
variable {X : Cx} {e a b c o tg kx vx : Expr} {es : List Expr} {st : Stmt} {sts rest body orelse : List Stmt} {r : Env2} {G : Hp} {pos tpos p0 p1 p2 : Pos} {D0 : EndsD}
def tRvT (K : PySem.W.Frag) (te : TE) : TE := fun σ H Q => te σ H fun v H1 => ∃ (a : Addr) (xs : List V), v = .ref a ∧ ((SqT K H1 a xs ∧ ∀ p, H1 p = none → Q (.ref p) (upd H1 p (.tup xs.reverse))) ∨ (SqL K H1 a xs ∧ ∀ p, H1 p = none → Q (.ref p) (upd H1 p (.lst xs.reverse))))
theorem pe_rv {te : TE} {p3 : Pos} {ci : Nat} (he : PE X e te) : PE X (.Subscript e (.Slice none none (some (.UnaryOp .USub (.Constant (.int 1) ci p1) p2)) p3) pos) (tRvT X.K te) := by
  refine ⟨fun pins s σ H Q I h => ?_⟩
  refine Subscript_ (thn (he.run pins s σ H _ I h) fun v s1 ⟨x, H1, I1, r1, a, xs, ex, q1⟩ => ?_)
  subst ex
  cases r1
  refine wpAny_Slice ?_
  rw [evalPart_none]
  refine wpAny_pure (wpAny_pure ?_)
  have po : PO X (some (.UnaryOp .USub (.Constant (.int 1) ci p1) p2)) _ := po_some (pe_un un_neg pe_int)
  refine thn (po.run pins s1 σ H1 (fun o H2 => o = some (-1) ∧ H2 = H1) I1 ⟨1, rfl, -1, rfl, rfl, rfl⟩) fun vk s2 ⟨o, H2, I2, pk, e1, e2⟩ => ?_
  subst e1 e2
  have I3 : Inv X pins σ H2 { s2 with heap := s2.heap.push { cls := .type "slice", data := .fields #[.none, .none, vk] } } := I2.kept (t' := s2.toks) fun b ob q => Heap.get?_push_of_some _ q
  have hs : Heap.IsSliceOf (s2.heap.push { cls := .type "slice", data := .fields #[.none, .none, vk] }) s2.heap.objs.size .none .none vk := Heap.IsSliceOf.new ..
  rcases q1 with ⟨hx, q⟩ | ⟨hx, q⟩
  · obtain ⟨its, rr, ht, hz⟩ := I3.tuple hx
    have hlen := rr.length
    refine tail_any (ops := [.ref a, .ref s2.heap.objs.size]) (T := "tuple") ht.typeIs PyProof.Rows.slot_tuple_getitem.lookup (getItem_rev ht hs pk ?_ (by rw [List.size_toArray]; omega)) (by with_unfolding_all rfl)
    refine ⟨.ref _, _, I3.laid (t' := s2.toks) (o := .tup xs.reverse) (fun b ob q => Heap.get?_push_of_some _ q) (Nat.le_refl _) ?_, rfl, q _ (I3.hok.fresh (Nat.le_refl _))⟩
    exact ⟨by rw [List.length_reverse]; exact hz, _, rr.reverse, IsTup.new _ _⟩
  · obtain ⟨its, rr, ht, hz⟩ := I3.list hx
    have hlen := rr.length
    refine tail_any (ops := [.ref a, .ref s2.heap.objs.size]) (T := "list") ht.isList.typeIs slot_list_getitem.lookup (wpAny_getItem_list_slice ht.isList hs .none .none pk (by decide) ?_ (by rw [List.size_toArray]; omega)) (by with_unfolding_all rfl)
    rw [PySem.W.krv_pick]
    refine ⟨.ref _, _, I3.laid (t' := s2.toks) (o := .lst xs.reverse) (fun b ob q => Heap.get?_push_of_some _ q) (Nat.le_refl _) ?_, rfl, q _ (I3.hok.fresh (Nat.le_refl _))⟩
    exact ⟨by rw [List.length_reverse]; exact hz, _, 0, rr.reverse, Heap.get?_push_size _ rfl⟩
theorem RepL.rev {K : PySem.W.Frag} {F : Hp} : ∀ {ds : List D} {vs : List V}, RepL K F ds vs → RepL K F ds.reverse vs.reverse
  | [], _, h => by rw [show _ = [] from h]; rfl
  | d :: ds, _, ⟨v, vs', h1, h2, h3⟩ => by
    subst h1
    rw [List.reverse_cons, List.reverse_cons]
    exact (RepL.rev h3).append (.one h2)
theorem we_rvT {p3 : Pos} {ci : Nat} {Q : Res → Env2 → Hp → Prop} (h : WE X a r G fun x r1 G1 => ∃ ds, vw r1 x = some (.tup ds) ∧ Q (.sh (.tup ds.reverse)) r1 G1) : WE X (.Subscript a (.Slice none none (some (.UnaryOp .USub (.Constant (.int 1) ci p1) p2)) p3) pos) r G Q := fun F0 T F H σ S =>
  Run.of (pe_rv peR) ((h F0 T F H σ S).mono fun v H1 ⟨x, r1, G1, F1, e1, S1, k1, ds, q1, q2⟩ => by
    obtain ⟨p, vs, rfl, z1, z2⟩ := (S1.view k1 q1).tup S1.bas.fh
    refine ⟨p, vs, rfl, .inl ⟨z1, fun l hl => ?_⟩⟩
    obtain ⟨x', F', f1, f2, f3, f4⟩ := new_tup S1 (RepL.rev z2) hl (Q := fun z => Q z r1 G1) q2
    exact ⟨x', r1, G1, F', e1.trans f1, f2, f3, f4⟩)
theorem we_rvL {p3 : Pos} {ci : Nat} {Q : Res → Env2 → Hp → Prop} (h : WE X a r G fun x r1 G1 => ∃ ds, vw r1 x = some (.lst ds) ∧ Q (.fr (.lst ds.reverse)) r1 G1) : WE X (.Subscript a (.Slice none none (some (.UnaryOp .USub (.Constant (.int 1) ci p1) p2)) p3) pos) r G Q := fun F0 T F H σ S =>
  Run.of (pe_rv peR) ((h F0 T F H σ S).mono fun v H1 ⟨x, r1, G1, F1, e1, S1, k1, ds, q1, q2⟩ => by
    obtain ⟨p, vs, rfl, z1, z2⟩ := (S1.view k1 q1).lst S1.bas.fh
    refine ⟨p, vs, rfl, .inr ⟨.inl (.inl z1), fun l hl => ?_⟩⟩
    obtain ⟨x', F', f1, f2, f3, f4⟩ := new_lst S1 (RepL.rev z2) hl (Q := fun z => Q z r1 G1) q2
    exact ⟨x', r1, G1, F', e1.trans f1, f2, f3, f4⟩)

/-! ### comprehensions over reversed(list) -/
theorem its_rev {K : PySem.W.Frag} {a : Addr} {xs : List V} : ItS (Itv K a xs.length) (fun H => SqL K H a xs) xs.length fun i x H H' => H' = H ∧ xs.reverse[i]? = some x where
  go := fun i H hi h => ⟨hi, xs, xs[xs.length - 1 - i], h, List.getElem?_eq_getElem _⟩
  stop := fun H h => Nat.le_refl _
  yld := fun i H x H' hi h ⟨y1, y2⟩ => ⟨y1, by rw [List.getElem?_reverse hi]; exact y2 xs h⟩
/-- list comprehensions over a row of turns -/
theorem lc_seq {J : It} {Ok : Hp → Prop} {n : Nat} {Yd : Nat → V → Hp → Hp → Prop} (hJ : ItS J Ok n Yd) {g : TG} {tt : TT} {te : TE} {vs : List Nat} {σ : L2.St} {H1 : Hp} {L : Addr} {Qd : Hp → Prop} (Pv : Nat → Hp → Prop) (h0 : Pv 0 (upd H1 L (.lst []))) (hl : ∀ i H, i ≤ n → Pv i H → Ok H)
    (hs : ∀ i x H H', i < n → Pv i H → Yd i x H H' → g x (L2.wipe σ vs) H' fun σ2 H2 => L2.wipe σ2 vs = L2.wipe σ vs ∧ tt σ2 H2 fun b H3 =>
      if b = true then te σ2 H3 fun y H4 => ∃ acc, H4 L = some (.lst acc) ∧ acc.length < sizeLine ∧ Pv (i + 1) (upd H4 L (.lst (acc ++ [y]))) else Pv (i + 1) H3) (hd : ∀ H, Pv n H → Qd H) :
    ∃ W : Nat → Nat → Hp → Prop, (∃ m, W 0 m (upd H1 L (.lst []))) ∧ ∀ i m H, W i m H →
      (J.stop i H ∧ Qd H) ∨ (J.go i H ∧ ∃ Nx : Hp → Prop, (∀ H', Nx H' → ∃ m', m' < m ∧ W (i + 1) m' H') ∧ ∀ x H', J.yld i H x H' → g x (L2.wipe σ vs) H' fun σ2 H2 => L2.wipe σ2 vs = L2.wipe σ vs ∧ tt σ2 H2 fun b H3 =>
        if b = true then te σ2 H3 fun y H4 => ∃ acc, H4 L = some (.lst acc) ∧ acc.length < sizeLine ∧ Nx (upd H4 L (.lst (acc ++ [y]))) else Nx H3) := by
  refine ⟨fun i m H => m = n - i ∧ i ≤ n ∧ Pv i H, ⟨n, rfl, Nat.zero_le _, h0⟩, fun i m H ⟨hm, hi, p⟩ => ?_⟩
  have q := hl i H hi p
  rcases Nat.lt_or_ge i n with hlt | hge
  · exact .inr ⟨hJ.go i H hlt q, Pv (i + 1), fun H' p' => ⟨n - (i + 1), by omega, rfl, hlt, p'⟩, fun x H' y => hs i x H H' hlt p (hJ.yld i H x H' hlt q y)⟩
  · obtain rfl : i = n := by omega
    exact .inl ⟨hJ.stop H q, hd H p⟩
theorem we_lcV {scope : Scope} {elt : Expr} {ifs : List Expr} (own : List (Str × Nat)) {Q : Res → Env2 → Hp → Prop} {rp : Pos} (hc : X.calm = true) (hN : X.N.Nodup) (ok : BlkOk X.N X.env.scope scope own) (hg : Gl X "reversed") (hm : X.mg "reversed" = none)
    (h : WE X a r G fun x r1 G1 => ∃ ds r2, fz r1 x = some (.lst ds, r2) ∧ ∃ I : Nat → List D → Env2 → Hp → Prop, I 0 [] (wipeD r2 (own.map (·.2))) G1 ∧ (∀ (k : Nat) (d : D) (acc : List D) (r3 : Env2) (G3 : Hp), ds.reverse[k]? = some d → I k acc r3 G3 → LcTurn X scope tg elt ifs (own.map (·.2)) d acc r3 G3 (I (k + 1))) ∧
      ∀ acc r3 G3, I ds.length acc r3 G3 → Q (.fr (.lst acc)) r3 G3) (hst : starEach [a] X.env = [(false, eval a X.env)] := by rfl) (hs : ∀ x, foldedSetIterable (.Call (.Name "reversed" p0) [a] [] rp) X.env x = pure x := by intro _; rfl) :
    WE X (.ListComp elt [⟨tg, .Call (.Name "reversed" p0) [a] [] rp, ifs, 0⟩] scope pos) r G Q := fun F0 T F H σ S =>
  Run.of (pe_lc hc hN (pi_reversed hg hm (pa_cons peR pa_nil hst) hst) ok blkG_ok blkT_ok blkE_ok hs) (by
    refine (h F0 T F H σ S).mono fun v H1 ⟨x, r1, G1, F1, e1, S1, k1, ds, r2, q1, I, i0, it, ie⟩ => ?_
    obtain ⟨Fa, e2, Sa, rp⟩ := S1.fz k1 q1
    obtain ⟨a, vs, rfl, z1, z2⟩ := rp
    refine ⟨a, vs, rfl, .inl (.inl (Sa.bas.fh _ _ z1)), fun L hL => ?_⟩
    obtain ⟨f1, f2, f3⟩ := Sa.bas.freshF hL
    refine lc_seq its_rev (fun k H' => LcInv X.K T Fa (L2.wipe σ (own.map (·.2))) L (I k) H') (lc_begin Sa hL i0) (fun k H' _ ⟨_, _, _, _, _, _, S', _⟩ => .inl (.inl (S'.bas.fh _ _ (S'.bas.ff _ _ z1)))) (fun k x' H' H'' hk hI ⟨y1, hx⟩ => ?_) fun H' hI => ?_
    · subst y1
      obtain ⟨d, hd, rd⟩ := (RepL.rev z2).getV hx
      exact lc_step f1 f3 hI rd fun acc r' G' q => it k d acc r' G' hd q
    · rw [z2.length] at hI
      exact (lc_end Sa.bas hL (wk_wipe _ _) Sa hI fun acc r' G' q => ie acc r' G' q).ext (e1.trans e2))

/-! ### sorted(d), the keys ints -/
theorem call_sortedDA (hcalm : X.calm = true) : CallR X (.builtin "sorted") (fun xs H Q => ∃ (a : Addr) (kvs : List (Key × V)) (ks : List Int), xs = [.ref a] ∧ Rd H a (.dK kvs) ∧ kvs.map (·.1) = ks.map Sum.inl ∧
    ∀ (ys : List Int) (p : Addr), ys.Perm ks → ys.Pairwise (· ≤ ·) → H p = none → Q (.ref p) (upd H p (.lst (ys.map V.int)))) := by
  intro pins s σ H xs us Q I r q
  obtain ⟨a, kvs, ks, ex, hd, hks, q⟩ := q
  subst ex
  obtain ⟨u, eu, rx⟩ := vals1 r
  subst eu
  cases rx
  obtain ⟨z, lo, vs, rel, dd⟩ := dk_rd I.hok hd
  obtain ⟨ep, hat⟩ := dd.dictAt
  have hkeys : vs.map (·.1) = ks.map Sum.inl := rel.keys.symm.trans hks
  have hl : vs.length = ks.length := by
    have e := congrArg List.length hkeys
    rw [List.length_map, List.length_map] at e
    exact e
  have h16 : vs.length ≤ sizeLine := by rw [← rel.length]; exact z
  refine Calls.call_function_entry PyProof.Rows.kind_sorted PyProof.Rows.plain_sorted PyProof.Rows.entry_sorted (PyProof.Rows.args_sorted1 _) ?_
  unfold Builtin.«sorted»
  refine wpAny_bind (m := checkCount "sorted" 1 1 _) (wpAny_pure ?_)
  refine wpAny_bind (PySem.W.kdu_collect (A := X.A.in1) (PySem.W.kdl_dict (knd := mixKind X.prog X.w) (kvs := vs) (ep := ep) lo) (I.ok.hd hcalm) hat h16 fun h' tk acc hk hacc => ?_)
  have hal : acc.toList.length = ks.length := by rw [Array.length_toList, hacc.1, hl]
  have hS : IntsAre acc.toList ks := ints_each hal fun j v e => by
    obtain ⟨k, x, e1, e2⟩ := hacc.2 j v (by rw [← Array.getElem?_toList]; exact e)
    have e3 : (vs.map (·.1))[j]? = some k := by rw [List.getElem?_map, e1]; rfl
    rw [hkeys, List.getElem?_map] at e3
    cases e4 : ks[j]? with
    | none => rw [e4] at e3; cases e3
    | some y =>
      rw [e4] at e3
      have e5 : Sum.inl y = k := Option.some.inj e3
      subst e5
      rcases keyIs_shape (show keyIs (Sum.inl y) v = true from e2) with ⟨i, t, ek, ev⟩ | ⟨z, t, ek, ev⟩
      · cases ek
        exact ⟨y, t, rfl, ev⟩
      · cases ek
  have I1 : Inv X pins σ H { s with heap := h', toks := tk } := I.kept hk
  refine wpAny_bind (wpAny_newList ?_ (by rw [hal, ← hl]; exact h16))
  have hoL : (h'.push (seqObj "list" acc.toList.toArray 0)).get? h'.objs.size = some (seqObj "list" acc.toList.toArray 0) := Heap.get?_push_size _ rfl
  show wpAny _ _ _ _ _ { s with heap := h'.push (seqObj "list" acc.toList.toArray 0), toks := tk }
  refine wpAny_bind (wpAny_holding (wpAny_call_entry PyProof.Rows.slot_list_sort ⟨_, hoL, rfl⟩ PyProof.Rows.entry_list_sort
    (SrtO.list_sort_ord (s := { s with heap := h'.push (seqObj "list" acc.toList.toArray 0), toks := tk }) SrtO.swo_int hoL (by rw [hal, ← hl]; exact h16) (fun h2 => SrtO.ints_sortable hS h2) fun out g1 g2 => ⟨_, rfl, ?_⟩) (PyProof.Rows.args_list_sort _)))
  obtain ⟨k1, k2, k3⟩ := SrtO.ints_out hS g1 g2
  obtain ⟨e', he'⟩ := PyProof.Rows.sortedHeap_at (vs := acc.toList) (out := out.toArray) hoL
  have hlen : ((out.map SrtO.iv).map V.int).length ≤ sizeLine := by
    rw [List.length_map, k2.length_eq, ← hl]
    exact h16
  refine wpAny_pure ⟨_, rfl, .ref h'.objs.size, upd H h'.objs.size (.lst ((out.map SrtO.iv).map V.int)), I1.laid (t' := tk) (fun b u e => ?_) (Nat.le_refl _)
    (show ObjOk X.prog X.w _ _ _ (.lst ((out.map SrtO.iv).map V.int)) from ⟨hlen, out, e', vals_of_ints k1, he'⟩), rfl, q _ _ k2 k3 (I1.hok.fresh (Nat.le_refl _))⟩
  have hb : b < h'.objs.size := Heap.lt_size e
  rw [PyProof.Rows.sortedHeap_old (Nat.ne_of_lt hb) (by rw [size_push']; exact Nat.lt_succ_of_lt hb)]
  exact Heap.get?_push_of_some _ e
theorem c_sortedD {Q : Res → Prop} {ks : List Int} {ds : List D} (hcalm : X.calm = true) (q : Q (.fr (.lst ((isort ks).map D.int)))) : CallW1 X (.builtin "sorted") (.dic (ks.map Sum.inl) ds) Q := fun F0 T F G H r σ v S h => by
  obtain ⟨p, vs, rfl, k1, k2, k3⟩ := h.dic S.bas.fh
  refine ⟨_, call_sortedDA hcalm, p, _, ks, rfl, k1, ?_, fun ys l h1 h2 hl => ?_⟩
  · rw [List.map_fst_zip (by rw [k3.length]; omega)]
  · rw [isort_of h1 h2]
    exact new_lst S (RepL.of_ints _) hl q
/-! ### dict(pairs) -/
theorem pairs_rep {K : PySem.W.Frag} {F : Hp} : ∀ {kvs : List (Key × D)} {vs : List V}, RepL K F (kvs.map fun kv => .tup [kD kv.1, kv.2]) vs → ∃ (ps : List Addr) (us : List (Key × V)), vs = ps.map V.ref ∧ Paired (fun p kv => SqT K F p [kV kv.1, kv.2]) ps us ∧ DRep K F kvs us
  | [], _, h => ⟨[], [], h, .nil, rfl⟩
  | kv :: kvs, _, ⟨v, vs', h1, ⟨p, ws, h2, h3, w1, ws1, h4, h5, w2, ws2, h6, h7, h8⟩, h9⟩ => by
    obtain ⟨ps, us, z1, z2, z3⟩ := pairs_rep h9
    subst h1 h2 z1
    cases rep_kD h5
    cases (show ws2 = [] from h8)
    subst h6 h4
    exact ⟨p :: ps, (kv.1, w2) :: us, rfl, .cons h3 z2, ⟨(kv.1, w2), us, rfl, rfl, h7, z3⟩⟩
theorem DRep.fold {K : PySem.W.Frag} {F : Hp} : ∀ {kvs acc : List (Key × D)} {us ws : List (Key × V)}, DRep K F acc ws → DRep K F kvs us → DRep K F (kvs.foldl (fun acc kv => putD acc kv.1 kv.2) acc) (mergeK ws us)
  | [], _, _, _, h, h' => by rw [show _ = [] from h']; exact h
  | kv :: kvs, acc, _, ws, h, ⟨u, us', h1, h2, h3, h4⟩ => by
    subst h1
    have : DRep K F (putD acc kv.1 kv.2) (putK ws u.1 u.2) := by rw [h2]; exact h.put h3
    have z := DRep.fold this h4
    exact z
theorem paired_mono {α β : Type} {R R' : α → β → Prop} (k : ∀ a b, R a b → R' a b) : ∀ {xs : List α} {ys : List β}, Paired R xs ys → Paired R' xs ys
  | _, _, .nil => .nil
  | _, _, .cons h t => .cons (k _ _ h) (paired_mono k t)
theorem c_dictP {Q : Res → Prop} {kvs : List (Key × D)} (hcalm : X.calm = true) (q : Q (.fr (dicD (kvs.foldl (fun acc kv => putD acc kv.1 kv.2) [])))) : CallW1 X (.type "dict") (.lst (kvs.map fun kv => .tup [kD kv.1, kv.2])) Q := fun F0 T F G H r σ v S h => by
  obtain ⟨p, vs, rfl, k1, k2⟩ := h.lst S.bas.fh
  obtain ⟨ps, us, rfl, z2, z3⟩ := pairs_rep k2
  refine ⟨_, call_dictP hcalm, p, ps, us, rfl, .inl (.inl k1), paired_mono (fun a b h => S.bas.fh.sqT h) z2, fun l hl => ?_⟩
  obtain ⟨f1, f2, f3⟩ := S.bas.freshF hl
  exact ⟨.fr (dicD _), F, Ex.refl _, S.newH hl, ⟨l, rfl, own_dicD (DRep.fold (acc := []) (ws := []) rfl z3) upd_same, f1, f2, f3, S.freshR hl⟩, q⟩
end

/-- a special method of a class with slots: a plain def -/
structure SpecD (P : Program) (w : World) (K : PySem.W.Frag) (mg : Str → Option Value) (base : Heap) (C : Addr) (m : Str) (k : Nat) (ps : List Str) (sp : FSp) : Prop where
  ex : ∃ (g : Addr) (fd : FuncData), PySem.W.findIn K (.ref C) m = some (some (.ref g)) ∧ PySem.W.isFn K (.ref g) = true ∧ FnOk P w K mg base CX0 k g fd ps (spD K sp) ∧ Binds K fd ps []
section
variable {X : Cx} {e a b c o tg kx vx : Expr} {es : List Expr} {st : Stmt} {sts rest body orelse : List Stmt} {r : Env2} {G : Hp} {pos tpos apos p0 p1 p2 : Pos} {D0 : EndsD}
/-- len(x), x an instance -/
def rLenOwn (C : Addr) (sp : Sp) (E : XK) : List V → Hp → VK → Prop := fun xs H Q => ∃ a dx vs, xs = [V.ref a] ∧ SlX.Slt H a C dx vs ∧ sp [.ref a] H (fun z H' => ∃ i, z = .int i ∧ (0 ≤ i ∧ i < 2 ^ 63) ∧ Q z H') E
theorem call_lenOwn {C g : Addr} {CX : CXT} {n : Nat} {sp : Sp} {E : XK} (hs : PySem.W.findIn X.K (.ref C) "__len__" = some (some (.ref g))) (hf : PySem.W.isFn X.K (.ref g) = true) (F : FnR X.prog X.w X.K X.mg X.base CX n g sp) (hr : Room (n + 1) X.A) (hx : Passes CX X E) : CallR X (.builtin "len") (rLenOwn C sp E) := by
  intro pins s σ H xs us Q I r h
  obtain ⟨a, dx, vs, rfl, hsl, q⟩ := h
  obtain ⟨u, rfl, ru⟩ := r.one
  cases (show u = Value.ref a from ru)
  obtain ⟨sl, od, _, J, _⟩ := SlX.slt_inst I hsl
  obtain ⟨m, hF⟩ := I.fr
  refine PySem.W.len_K hF I.ok.mod.kin J hs hf (wpAny_mono (wpAny_call (SlX.run_at (us := [.ref a]) (ws := [.ref a]) F hr.in1 I.env0.in1 hx I (.cons rfl .nil) q)) (fun w s' z => ?_) fun _ _ x => x)
  obtain ⟨z', H', I', rz, i, ei, hi, qz⟩ := z
  subst ei
  obtain ⟨t, e⟩ := (show ∃ t, w = Value.int i t from rz)
  cases e
  exact ⟨hi, .int i, H', I'.tok _, ⟨_, rfl⟩, qz⟩
theorem Vw.rep_ins {K : PySem.W.Frag} {F H : Hp} {C : Addr} {ds : List D} {v : V} (h : Vw K F H (.ins C ds) v) : Rep K F (.ins C ds) v := by
  rcases h with z | ⟨_, _, z⟩
  · exact z
  · exact z.elim
theorem Vw.rep_tup {K : PySem.W.Frag} {F H : Hp} {ds : List D} {v : V} (h : Vw K F H (.tup ds) v) : Rep K F (.tup ds) v := by
  rcases h with z | ⟨_, _, z⟩
  · exact z
  · exact z.elim
/-- a promise met, the open region as it was -/
theorem spD_same {K : PySem.W.Frag} {F0 T F H : Hp} {σ : L2.St} {sp : FSp} {ds : List D} {vs : List V} {Q : Res → Prop} {E : XK} (S : Sta K F0 T F G H r σ) (ha : RepL K F ds vs) (h : sp ds G fun z G2 => G2 = G ∧ Q z) :
    spD K sp vs H (fun v H' => ∃ x F', Ex F F' ∧ Sta K F0 T F' G H' r σ ∧ ResOk K T F' G H' r σ x v ∧ Q x) E :=
  ⟨F, G, ds, _, S.bas.fh, S.bas.gh, S.bas.fg, ha, h, fun x G' v H' F' ⟨e1, hp⟩ B rt => by
    subst e1
    exact ⟨x, F', B.ff, S.after B, ResOk.after S B rt, hp⟩⟩
theorem c_lenI {C : Addr} {k j : Nat} {ps : List Str} {sp : FSp} {ds : List D} {Q : Res → Prop} (M : SpecD X.prog X.w X.K X.mg X.base C "__len__" k ps sp) (hr : Room j X.A) (h : ∀ G, sp [.ins C ds] G fun z G2 => G2 = G ∧ ∃ i, z = .sh (.int i) ∧ (0 ≤ i ∧ i < 2 ^ 63) ∧ Q z) (hj : k + 1 ≤ j := by omega) : CallW1 X (.builtin "len") (.ins C ds) Q := fun F0 T F G H r σ v S hv => by
  obtain ⟨g, fd, h1, h2, h3, h4⟩ := M.ex
  have rp := hv.rep_ins
  obtain ⟨ad, dx, vs, rfl, z1, z2⟩ := hv.ins S.bas.fh
  refine ⟨_, call_lenOwn (E := E0) h1 h2 (fnr h3 h4) (hr.mono hj) pass0, ad, dx, vs.map some, rfl, z1, ?_⟩
  obtain ⟨F1, G1, ds1, post, k1, k2, k3, k4, k5, k6⟩ := spD_same (E := E0) S (.one rp) (h G)
  refine ⟨F1, G1, ds1, post, k1, k2, k3, k4, k5, fun x G' v' H' F' hp B rt => ?_⟩
  obtain ⟨x', F'', q1, q2, q3, q4⟩ := k6 x G' v' H' F' hp B rt
  obtain ⟨i, rfl, hi, hq⟩ := q4
  exact ⟨i, q3, hi, .sh (.int i), F'', q1, q2, q3, hq⟩
/-- x op y, x an instance, y any value of a known class -/
def rOwnX (K : PySem.W.Frag) (C : Addr) (sp : Sp) (E : XK) : R2 := fun x y H Q => ∃ a dx vs b ws, x = .ref a ∧ y = .ref b ∧ SlX.Slt H a C dx vs ∧ SqT K H b ws ∧ PySem.W.notFirst K C (.type "tuple") = true ∧ sp [x, y] H Q E
theorem op_ownX {C g : Addr} {CX : CXT} {n : Nat} {sp : Sp} {E : XK} {op : CmpOp} (hop : ∀ a b, compareOp op a b = richCompare op a b) (hs : PySem.W.findIn X.K (.ref C) (cmpInfo op).2.1 = some (some (.ref g))) (hf : PySem.W.isFn X.K (.ref g) = true) (F : FnR X.prog X.w X.K X.mg X.base CX n g sp)
    (hr : Room n X.A) (hx : Passes CX X E) : OpR X (compareOp op) (rOwnX X.K C sp E) := by
  intro pins s σ H x y v u Q I rx ry h
  obtain ⟨a, dx, vs, b, ws, rfl, rfl, ha, hb, hn, q⟩ := h
  cases (show v = Value.ref a from rx)
  cases (show u = Value.ref b from ry)
  obtain ⟨sl, od, _, J, _⟩ := SlX.slt_inst I ha
  obtain ⟨its, _, ⟨ob, hob, hcb, _⟩, _⟩ := I.tuple hb
  obtain ⟨m, hF⟩ := I.fr
  rw [hop]
  refine PySem.W.cmp_K (op := op) (tb := .type "tuple") hr.units0 hF I.ok.mod.kin J (fun A Q E s k q => wpAny_typeOf_ref (k _ _ hob) (by rw [hcb]; exact q)) hn hs hf ?_
  refine wpAny_mono (wpAny_call (run_fnR (us := [.ref a, .ref b]) (vs := [.ref a, .ref b]) F hr hx I (.cons rfl (.cons rfl .nil)) q)) (fun w s' z => ?_) fun _ _ x => x
  obtain ⟨z', H', I', rz, qz⟩ := z
  exact SlX.cmpback rz ⟨z', H', I', rz, qz⟩
theorem opw_own {C C' : Addr} {k j : Nat} {ps : List Str} {sp : FSp} {ds es : List D} {Q : Res → Prop} {op : CmpOp} (hop : ∀ a b, compareOp op a b = richCompare op a b) (M : SpecD X.prog X.w X.K X.mg X.base C (cmpInfo op).2.1 k ps sp) (hr : Room j X.A) (hn : PySem.W.notFirst X.K C (.ref C') = true) (h : ∀ G, sp [.ins C ds, .ins C' es] G fun z G2 => G2 = G ∧ Q z) (hj : k ≤ j := by omega) : OpW X (compareOp op) (.ins C ds) (.ins C' es) Q := fun F0 T F G H r σ va vb S ha hb => by
  obtain ⟨g, fd, h1, h2, h3, h4⟩ := M.ex
  have ra := ha.rep_ins
  have rb := hb.rep_ins
  obtain ⟨ad, dx, vs, rfl, z1, z2⟩ := ha.ins S.bas.fh
  obtain ⟨bd, dy, ws, rfl, y1, y2⟩ := hb.ins S.bas.fh
  exact ⟨_, SlX.op_own (E := E0) hop h1 h2 (fnr h3 h4) (hr.mono hj) pass0, ad, dx, vs.map some, bd, C', dy, ws.map some, rfl, rfl, z1, y1, hn, spD_same (ds := [.ins C ds, .ins C' es]) S ⟨_, _, rfl, ra, .one rb⟩ (h G)⟩
theorem opw_ownT {C : Addr} {k j : Nat} {ps : List Str} {sp : FSp} {ds es : List D} {Q : Res → Prop} {op : CmpOp} (hop : ∀ a b, compareOp op a b = richCompare op a b) (M : SpecD X.prog X.w X.K X.mg X.base C (cmpInfo op).2.1 k ps sp) (hr : Room j X.A) (hn : PySem.W.notFirst X.K C (.type "tuple") = true) (h : ∀ G, sp [.ins C ds, .tup es] G fun z G2 => G2 = G ∧ Q z) (hj : k ≤ j := by omega) : OpW X (compareOp op) (.ins C ds) (.tup es) Q := fun F0 T F G H r σ va vb S ha hb => by
  obtain ⟨g, fd, h1, h2, h3, h4⟩ := M.ex
  have ra := ha.rep_ins
  have rb := hb.rep_tup
  obtain ⟨ad, dx, vs, rfl, z1, z2⟩ := ha.ins S.bas.fh
  obtain ⟨bd, ws, rfl, y1, y2⟩ := hb.tup S.bas.fh
  exact ⟨_, op_ownX (E := E0) hop h1 h2 (fnr h3 h4) (hr.mono hj) pass0, ad, dx, vs.map some, bd, ws, rfl, rfl, z1, y1, hn, spD_same (ds := [.ins C ds, .tup es]) S ⟨_, _, rfl, ra, .one rb⟩ (h G)⟩
/-- o.m(a, ..), o an instance -/
theorem we_meth {m : Str} {C : Addr} {k j : Nat} {ps : List Str} {sp : FSp} {pl : Sem Bool} {Q : Res → Env2 → Hp → Prop} (c : SlX.SCls X.K C) (p : MethD X.prog X.w X.K X.mg X.base C m k ps sp) (hr : Room j X.A) (h : WE X o r G fun x r1 G1 => ∃ ds, vw r1 x = some (.ins C ds) ∧ WA X (e :: es) r1 G1 fun as r2 G2 => sp (.ins C ds :: as) G2 fun z G3 => Q z r2 G3) (hj : k ≤ j := by omega)
    (hst : starEach (e :: es) X.env = (false, eval e X.env) :: starEach es X.env := by rfl) (hpl : (backTo pos (starEach es X.env)).any (·.1) = false := by rfl)
    (ht : eval (.Call (.Attribute o m apos) (e :: es) [] pos) X.env = (do
      let ov ← eval o X.env
      standAt apos.atName
      let (f, first) ← holding [ov] (getMethod ov m pl)
      callWith pos f first (backTo pos (starEach (e :: es) X.env)) (backToKw pos (keywordEach [] X.env))) := by rfl) : WE X (.Call (.Attribute o m apos) (e :: es) [] pos) r G Q := fun F0 T F H σ S => by
  obtain ⟨g, fd, h1, h2, h3⟩ := p.ex
  refine Run.of (SlX.pe_methSl (E := E0) (pl := pl) peR c h1 (fnr h2 h3) (hr.mono hj) pass0 paR hst hpl ht) ((h F0 T F H σ S).mono fun v H1 ⟨x, r1, G1, F1, e1, S1, k1, ds, q1, q2⟩ => ?_)
  obtain ⟨F1', e1', S1', hv⟩ := hold S1 k1
  have vv := hv F1' G1 H1 r1 _ (Ex.refl _) S1' (.inl q1)
  have rp := vv.rep_ins
  obtain ⟨a, dx, vs, rfl, z1, z2⟩ := vv.ins S1'.bas.fh
  refine ⟨a, dx, vs.map some, rfl, z1, (q2 F0 T F1' H1 σ S1').mono fun us H2 ⟨as, r2, G2, F2, e2, S2, k2, q3⟩ => ?_⟩
  exact spD_of (E := E0) (ds := .ins C ds :: as) S2 ((e1.trans e1').trans e2) ⟨_, _, rfl, Rep.mono e2 _ _ rp, k2⟩ q3
end

section
variable {X : Cx} {e a b c o tg kx vx : Expr} {es : List Expr} {st : Stmt} {sts rest body orelse : List Stmt} {r : Env2} {G : Hp} {pos tpos apos p0 p1 p2 : Pos} {D0 : EndsD}
/-- [list, int] in the open region -/
theorem we_box {Q : Res → Env2 → Hp → Prop} (h : WE X a r G fun x r1 G1 => ∃ ns : List Int, x = .fr (.lst (ns.map D.int)) ∧ ∀ p, G1 p = none → WE X b r1 (upd G1 p (.lst (ns.map V.int))) fun y r2 G2 => ∃ n, vw r2 y = some (.int n) ∧ ∀ q, G2 q = none → Q (.sh (.adr q)) r2 (upd G2 q (.lst [.ref p, .int n])))
    (hs : starEach [a, b] X.env = (false, eval a X.env) :: starEach [b] X.env := by rfl) (hs2 : starEach [b] X.env = (false, eval b X.env) :: starEach [] X.env := by rfl) : WE X (.List [a, b] pos) r G Q := fun F0 T F H σ S =>
  Run.of (pe_lst (pa_cons peR (pa_cons peR pa_nil hs2) hs)) ((h F0 T F H σ S).mono fun v H1 ⟨x, r1, G1, F1, e1, S1, k1, ns, hx, h1⟩ => by
    subst hx
    obtain ⟨p, ep, ⟨us, hu, ru⟩, f1, f2, f3, f4⟩ := id k1
    subst ep
    cases ru.ints
    have S1' := S1.gnew k1 hu
    refine (h1 p f2 F0 T F1 H1 σ S1').mono fun w H2 ⟨y, r2, G2, F2, e2, S2, k2, n, q1, q2⟩ => ?_
    cases (S2.view k2 q1).int
    refine ⟨by show 2 ≤ sizeLine; decide, fun q hq => ?_⟩
    obtain ⟨g1, g2, g3⟩ := S2.bas.freshF hq
    have S3 : Sta X.K F0 T F2 G2 (upd H2 q (.lst [.ref p, .int n])) r2 σ := S2.newH hq
    have S4 := S3.gnew (p := q) (d := .lst [.adr p, .int n]) ⟨q, rfl, ⟨_, upd_same, _, _, rfl, rfl, .one rfl⟩, g1, g2, g3, S2.freshR hq⟩ upd_same
    exact ⟨.sh (.adr q), r2, _, F2, e1.trans e2, S4, rfl, q2 q g2⟩)
def rgI (a b : Int) : List Int := (List.range (b - a).toNat).map fun i => a + (i : Nat)
theorem rgI_V (a b : Int) : (rgI a b).map V.int = rgV a b := by unfold rgI rgV; rw [List.map_map]; rfl
theorem rgI_length (a b : Int) : (rgI a b).length = (b - a).toNat := by unfold rgI; rw [List.length_map, List.length_range]
theorem we_listR2 {Q : Res → Env2 → Hp → Prop} (hc : X.calm = true) (hg : Gl X "list") (hm : X.mg "list" = none) (hg2 : Gl X "range") (hm2 : X.mg "range" = none)
    (h : WE X a r G fun x r1 G1 => WE X b r1 G1 fun y r2 G2 => ∃ lo n, vw r2 x = some (.int lo) ∧ vw r2 y = some (.int n) ∧ RgOk lo n ∧ Q (.fr (.lst ((rgI lo n).map D.int))) r2 G2) (na : starEach [a, b] X.env = (false, eval a X.env) :: starEach [b] X.env := by rfl) (nb : starEach [b] X.env = (false, eval b X.env) :: starEach [] X.env := by rfl) (hpl : (backTo p2 (starEach [b] X.env)).any (·.1) = false := by rfl)
    (na2 : starEach [.Call (.Name "range" p1) [a, b] [] p2] X.env = (false, eval (.Call (.Name "range" p1) [a, b] [] p2) X.env) :: starEach [] X.env := by rfl) : WE X (.Call (.Name "list" p0) [.Call (.Name "range" p1) [a, b] [] p2] [] pos) r G Q := fun F0 T F H σ S =>
  Run.of (pe_listRg hc hg hm (prg_2 hg2 hm2 peR peR na nb hpl) na2) ((h F0 T F H σ S).mono fun v H1 ⟨x, r1, G1, F1, e1, S1, k1, h1⟩ => by
    obtain ⟨F1', e1', S1', hv⟩ := hold S1 k1
    refine (h1 F0 T F1' H1 σ S1').mono fun v2 H2 ⟨y, r2, G2, F2, e2, S2, k2, lo, n, q1, q2, ok, q⟩ => ?_
    refine ⟨lo, n, (hv F2 G2 H2 r2 _ e2 S2 (.inl q1)).int, (S2.view k2 q2).int, ok, fun l hl => ?_⟩
    rw [← rgI_V]
    obtain ⟨x', F', f1, f2, f3, f4⟩ := new_lst S2 (RepL.of_ints (rgI lo n)) hl (Q := fun z => Q z r2 G2) q
    exact ⟨x', r2, G2, F', ((e1.trans e1').trans e2).trans f1, f2, f3, f4⟩)
end
theorem lt_ {i n : Nat} (h : Nat.ble (i + 1) n = true) : i < n := Nat.le_of_ble_eq_true h
theorem ixN0 {α : Type} (x : α) (xs : List α) : ixN (x :: xs).length 0 = some 0 := by
  unfold ixN
  rw [if_pos (by omega), if_pos (by rw [List.length_cons]; omega)]
  rfl
/-- what builtin names stand free -/
structure Bn (mg : Str → Option Value) : Prop where
  int : mg "int" = none
  len : mg "len" = none
  list : mg "list" = none
  range : mg "range" = none
  sorted : mg "sorted" = none
  tuple : mg "tuple" = none
  dict : mg "dict" = none
  isinstance : mg "isinstance" = none
  bool : mg "bool" = none
  str : mg "str" = none
  enumerate : mg "enumerate" = none
  reversed : mg "reversed" = none
  abs : mg "abs" = none
  min : mg "min" = none
  max : mg "max" = none
  sum : mg "sum" = none
theorem upd_comm {H : Hp} {a b : Addr} {x y : HO} (h : a ≠ b) : upd (upd H a x) b y = upd (upd H b y) a x := by
  funext c
  by_cases h1 : c = a
  · subst h1; rw [upd_ne h, upd_same, upd_same]
  · by_cases h2 : c = b
    · subst h2; rw [upd_same, upd_ne h1, upd_same]
    · rw [upd_ne h2, upd_ne h1, upd_ne h1, upd_ne h2]
/-! ### what the draws give -/
def takeM (ns : List Int) (st m : Int) : Int × List Int × Int := match ns with
  | [] => ((st * 48271 % 2147483647) / 7 % m, [], st * 48271 % 2147483647)
  | n :: r => (n % m, if n / m = 0 ∨ n / m = -1 then r else n / m :: r, st)
def stirM : List Int → Int → Int
  | [], st => st
  | n :: ns, st => stirM ns ((st * 48271 + n * 69621 + 11) % 2147483647)
def begunM (ns : List Int) : Int := stirM ns 0 * (if 2 < ns.length then 1 else 0)
/-- the box, as the defs know it -/
def BoxIn (G : Hp) (G0 : Hp) (b g : Addr) (ns : List Int) (st : Int) : Prop := G = boxG G0 b g ns st ∧ g ≠ b ∧ 0 ≤ st ∧ st < 2147483647
theorem takeM_lt {ns : List Int} {st m : Int} (h : 0 < m) : 0 ≤ (takeM ns st m).1 ∧ (takeM ns st m).1 < m := by
  cases ns with
  | nil => exact ⟨Int.emod_nonneg _ (by omega), Int.emod_lt_of_pos _ h⟩
  | cons n r => exact ⟨Int.emod_nonneg _ (by omega), Int.emod_lt_of_pos _ h⟩
theorem takeM_st {ns : List Int} {st m : Int} (h : 0 ≤ st ∧ st < 2147483647) : 0 ≤ (takeM ns st m).2.2 ∧ (takeM ns st m).2.2 < 2147483647 := by
  cases ns with
  | nil => exact ⟨Int.emod_nonneg _ (by omega), Int.emod_lt_of_pos _ (by omega)⟩
  | cons n r => exact h
theorem stirM_lt : ∀ (ns : List Int) (st : Int), 0 ≤ st → st < 2147483647 → 0 ≤ stirM ns st ∧ stirM ns st < 2147483647
  | [], st, h1, h2 => ⟨h1, h2⟩
  | n :: ns, st, h1, h2 => stirM_lt ns _ (Int.emod_nonneg _ (by omega)) (Int.emod_lt_of_pos _ (by omega))
theorem begunM_lt (ns : List Int) : 0 ≤ begunM ns ∧ begunM ns < 2147483647 := by
  have h := stirM_lt ns 0 (by omega) (by omega)
  unfold begunM
  split
  · omega
  · omega
theorem stirM_snoc : ∀ (ns : List Int) (n st : Int), stirM (ns ++ [n]) st = (stirM ns st * 48271 + n * 69621 + 11) % 2147483647
  | [], n, st => rfl
  | m :: ns, n, st => stirM_snoc ns n _
theorem take_snoc {α : Type} {xs : List α} {k : Nat} {x : α} (h : xs[k]? = some x) : xs.take (k + 1) = xs.take k ++ [x] := by
  rw [List.take_add_one, h]; rfl
/-- the box, whatever it holds -/
def Bx (G0 : Hp) (b g : Addr) (G : Hp) : Prop := ∃ ns st, BoxIn G G0 b g ns st
/-- the promises -/
def begunF (K : PySem.W.Frag) : FSp := fun ds G post => ∃ (a : Addr) (ns : List Int), ds = [.adr a] ∧ Scr K G a ns ∧ ∀ b g G', Bx G b g G' → post (.sh (.adr b)) G'
def takeF : FSp := fun ds G post => ∃ (G0 : Hp) (b g : Addr) (m : Int), ds = [.adr b, .int m] ∧ Bx G0 b g G ∧ (0 < m ∧ m < 1073741824) ∧ ∀ v G', 0 ≤ v → v < m → Bx G0 b g G' → post (.sh (.int v)) G'
/-! ### drawn marks -/
structure GoodM (most len : Int) (ms : List Int) : Prop where
  asc : ms.Pairwise (· < ·)
  zero : ms.head? = some 0
  le : ∀ m ∈ ms, 0 ≤ m ∧ m ≤ len
  two : 2 ≤ ms.length
  few : (ms.length : Int) ≤ most
def marksF : FSp := fun ds G post => ∃ (G0 : Hp) (b g : Addr) (most len : Int), ds = [.adr b, .int most, .int len] ∧ Bx G0 b g G ∧ (2 ≤ most ∧ most < 10000) ∧ (1 ≤ len ∧ len < 10000) ∧ ∀ ms G', GoodM most len ms → Bx G0 b g G' → post (.sh (.tup (ms.map D.int))) G'
theorem mem_rgI {a b x : Int} : x ∈ rgI a b ↔ a ≤ x ∧ x < b := by
  unfold rgI
  rw [List.mem_map]
  constructor
  · rintro ⟨i, hi, rfl⟩
    have := List.mem_range.mp hi
    omega
  · intro h
    exact ⟨(x - a).toNat, List.mem_range.mpr (by omega), by omega⟩
theorem nodup_rgI (a b : Int) : (rgI a b).Nodup := by
  unfold rgI
  rw [List.nodup_iff_pairwise_ne, List.pairwise_map]
  exact (List.nodup_range (n := (b - a).toNat)).imp fun h z => h (by omega)
/-- what the loop of the draws keeps -/
structure Drawn (len : Int) (k : Nat) (left found : List Int) : Prop where
  perm : (found ++ left).Perm (0 :: rgI 1 (len + 1))
  zero : 0 ∈ found
  few : found.length ≤ k + 1
  full : found.length = k + 1 ∨ left = []
theorem Drawn.begin (len : Int) : Drawn len 0 (rgI 1 (len + 1)) [0] := ⟨List.Perm.refl _, List.mem_singleton.mpr rfl, Nat.le_refl _, .inl rfl⟩
theorem eraseIdx_perm {α : Type} {xs : List α} {j : Nat} {x : α} (h : xs[j]? = some x) : xs.Perm (x :: xs.eraseIdx j) := by
  induction xs generalizing j with
  | nil => simp at h
  | cons y ys ih =>
    cases j with
    | zero => simp at h; subst h; exact List.Perm.refl _
    | succ j =>
      rw [List.eraseIdx_cons_succ]
      exact (List.Perm.cons y (ih (by simpa using h))).trans (List.Perm.swap _ _ _)
theorem Drawn.step {len : Int} {k : Nat} {left found : List Int} {j : Nat} {x : Int} (h : Drawn len k left found) (hj : left[j]? = some x) : Drawn len (k + 1) (left.eraseIdx j) (found ++ [x]) := by
  refine ⟨?_, List.mem_append_left _ h.zero, ?_, ?_⟩
  · rw [List.append_assoc]
    exact ((List.Perm.append_left found (eraseIdx_perm hj)).symm).trans h.perm
  · rw [List.length_append]
    have := h.few
    simp
    omega
  · rcases h.full with z | z
    · left; rw [List.length_append, z]; rfl
    · subst z; simp at hj
theorem Drawn.skip {len : Int} {k : Nat} {found : List Int} (h : Drawn len k [] found) : Drawn len (k + 1) [] found := ⟨h.perm, h.zero, Nat.le_succ_of_le h.few, .inr rfl⟩
theorem asc_of {ns : List Int} (h : ns.Nodup) : (isort ns).Pairwise (· < ·) := by
  have hs := isort_sorted ns
  have hn : (isort ns).Nodup := (isort_perm ns).nodup_iff.mpr h
  exact (hs.and hn).imp fun ⟨h1, h2⟩ => by omega
theorem Drawn.good {len most : Int} {k : Nat} {left found : List Int} (h : Drawn len k left found) (hl : 1 ≤ len) (hk : 1 ≤ k) (hm : (k : Int) + 1 ≤ most) : GoodM most len (isort found) := by
  have nd : (0 :: rgI 1 (len + 1)).Nodup := List.nodup_cons.mpr ⟨fun z => by have := mem_rgI.mp z; omega, nodup_rgI _ _⟩
  have nf : found.Nodup := (List.nodup_append.mp (h.perm.nodup_iff.mpr nd)).1
  have mem : ∀ m ∈ found, 0 ≤ m ∧ m ≤ len := fun m hm => by
    have := h.perm.mem_iff.mp (List.mem_append_left left hm)
    rcases List.mem_cons.mp this with z | z
    · omega
    · have := mem_rgI.mp z; omega
  have asc := asc_of nf
  have mem' : ∀ m ∈ isort found, 0 ≤ m ∧ m ≤ len := fun m hm => mem m ((isort_perm found).mem_iff.mp hm)
  refine ⟨asc, ?_, mem', ?_, ?_⟩
  · have hz : (0 : Int) ∈ isort found := (isort_perm found).mem_iff.mpr h.zero
    cases e : isort found with
    | nil => rw [e] at hz; cases hz
    | cons a as =>
      rw [e] at asc hz mem'
      rcases List.mem_cons.mp hz with z | z
      · rw [← z]; rfl
      · have := (List.pairwise_cons.mp asc).1 0 z
        have := mem' a List.mem_cons_self
        omega
  · rw [isort_length]
    rcases h.full with z | z
    · omega
    · subst z
      have := h.perm.length_eq
      rw [List.append_nil, List.length_cons, rgI_length] at this
      omega
  · rw [isort_length]
    have := h.few
    omega

theorem cutD_from (ds : List D) (j : Nat) : cutD ds (some (j : Int)) none = ds.drop j := by
  unfold cutD
  rw [HT.sIx_nat, HT.sIx_none]
  by_cases h : j ≤ ds.length
  · rw [Nat.min_eq_left h, List.take_of_length_le (by rw [List.length_drop]; exact Nat.le_refl _)]
  · rw [Nat.min_eq_right (by omega), List.drop_length, List.drop_eq_nil_of_le (by omega)]
    simp
theorem cutD_to (ds : List D) (j : Nat) : cutD ds none (some (j : Int)) = ds.take j := by
  unfold cutD
  rw [HT.sIx_nat, HT.sIx_none, List.drop_zero, Nat.sub_zero]
  by_cases h : j ≤ ds.length
  · rw [Nat.min_eq_left h]
  · rw [Nat.min_eq_right (by omega), List.take_length, List.take_of_length_le (by omega)]
theorem map_erase {α β : Type} (f : α → β) : ∀ (xs : List α) (j : Nat), (xs.eraseIdx j).map f = (xs.map f).eraseIdx j
  | [], _ => by simp
  | x :: xs, 0 => rfl
  | x :: xs, j + 1 => by rw [List.eraseIdx_cons_succ, List.map_cons, List.map_cons, List.eraseIdx_cons_succ, map_erase f xs j]
section
variable {X : Cx} {r : Env2} {G : Hp} {pos px py pz : Pos}
theorem wg_pair (i j : Nat) {x y : Str} {kt : Nat} {d1 d2 : D} {is : List Nat} {Q : Env2 → Hp → Prop} (hc : X.calm = true) (nd : X.N.Nodup) (hi : X.N[i]? = some x) (hj : X.N[j]? = some y) (hx : L2.Loc X.env.scope x) (hy : L2.Loc X.env.scope y) (mi : i ∈ is) (mj : j ∈ is) (li : i < r.length) (lj : j < r.length)
    (q : Q ((r.set i (.sh d1)).set j (.sh d2)) G) (hfx : X.fn x = true ∨ X.env.scope.names.lookup x = some .local := by first | exact .inl rfl | exact .inr rfl | assumption) (hfy : X.fn y = true ∨ X.env.scope.names.lookup y = some .local := by first | exact .inl rfl | exact .inr rfl | assumption)
    (hn : (assignEach [.Name x px, .Name y py] X.env).length = 2 := by rfl) (hf : (assignEach [.Name x px, .Name y py] X.env).findIdx? (·.1) = none := by rfl) : WG X (.Tuple [.Name x px, .Name y py] kt pos) (.tup [d1, d2]) r G is Q :=
  wg_tup [i, j] hc (.cons (pg_name nd hi hx hfx) (.cons (pg_name nd hj hy hfy) .nil)) (fun t ht us => by
    rcases List.mem_cons.mp ht with rfl | ht
    · rfl
    · cases List.mem_singleton.mp ht; rfl) (fun k hk => by
    rcases List.mem_cons.mp hk with rfl | hk
    · exact mi
    · cases List.mem_singleton.mp hk; exact mj) rfl (fun k hk => by
    rcases List.mem_cons.mp hk with rfl | hk
    · exact li
    · cases List.mem_singleton.mp hk; exact lj) q hn hf
theorem wg_trip (i j l : Nat) {x y z : Str} {kt : Nat} {d1 d2 d3 : D} {is : List Nat} {Q : Env2 → Hp → Prop} (hc : X.calm = true) (nd : X.N.Nodup) (hi : X.N[i]? = some x) (hj : X.N[j]? = some y) (hk : X.N[l]? = some z) (hx : L2.Loc X.env.scope x) (hy : L2.Loc X.env.scope y) (hz : L2.Loc X.env.scope z) (mi : i ∈ is) (mj : j ∈ is) (ml : l ∈ is) (li : i < r.length) (lj : j < r.length) (ll : l < r.length)
    (q : Q (((r.set i (.sh d1)).set j (.sh d2)).set l (.sh d3)) G) (hfx : X.fn x = true ∨ X.env.scope.names.lookup x = some .local := by first | exact .inl rfl | exact .inr rfl | assumption) (hfy : X.fn y = true ∨ X.env.scope.names.lookup y = some .local := by first | exact .inl rfl | exact .inr rfl | assumption) (hfz : X.fn z = true ∨ X.env.scope.names.lookup z = some .local := by first | exact .inl rfl | exact .inr rfl | assumption)
    (hn : (assignEach [.Name x px, .Name y py, .Name z pz] X.env).length = 3 := by rfl) (hf : (assignEach [.Name x px, .Name y py, .Name z pz] X.env).findIdx? (·.1) = none := by rfl) : WG X (.Tuple [.Name x px, .Name y py, .Name z pz] kt pos) (.tup [d1, d2, d3]) r G is Q :=
  wg_tup [i, j, l] hc (.cons (pg_name nd hi hx hfx) (.cons (pg_name nd hj hy hfy) (.cons (pg_name nd hk hz hfz) .nil))) (fun t ht us => by
    rcases List.mem_cons.mp ht with rfl | ht
    · rfl
    · rcases List.mem_cons.mp ht with rfl | ht
      · rfl
      · cases List.mem_singleton.mp ht; rfl) (fun k hk => by
    rcases List.mem_cons.mp hk with rfl | hk
    · exact mi
    · rcases List.mem_cons.mp hk with rfl | hk
      · exact mj
      · cases List.mem_singleton.mp hk; exact ml) rfl (fun k hk => by
    rcases List.mem_cons.mp hk with rfl | hk
    · exact li
    · rcases List.mem_cons.mp hk with rfl | hk
      · exact lj
      · cases List.mem_singleton.mp hk; exact ll) q hn hf
end
/-! ### distances -/
def spreadL : List Int → List Int
  | [] => []
  | m :: r => r.map (fun o => o - m) ++ spreadL r
theorem drop_cons {α : Type} {xs : List α} {k : Nat} {x : α} (h : xs[k]? = some x) : xs.drop k = x :: xs.drop (k + 1) := by
  obtain ⟨hk, rfl⟩ := List.getElem?_eq_some_iff.mp h
  exact List.drop_eq_getElem_cons hk
theorem spread_step {ms : List Int} {k : Nat} {m : Int} (h : ms[k]? = some m) : spreadL (ms.drop k) = (ms.drop (k + 1)).map (fun o => o - m) ++ spreadL (ms.drop (k + 1)) := by rw [drop_cons h]; rfl
theorem spread_len : ∀ ms : List Int, (spreadL ms).length ≤ ms.length * ms.length
  | [] => Nat.le_refl _
  | m :: r => by
    have := spread_len r
    rw [spreadL, List.length_append, List.length_map, List.length_cons, Nat.succ_mul, Nat.mul_succ]
    omega
/-- a comprehension's list so far: the first k, each by f -/
theorem map_snoc {α β : Type} (f : α → β) {xs : List α} {k : Nat} {x : α} (h : xs[k]? = some x) : (xs.take (k + 1)).map f = (xs.take k).map f ++ [f x] := by rw [take_snoc h, List.map_append]; rfl
/-- the promises -/
def spreadF : FSp := fun ds G post => ∃ ms : List Int, ds = [.tup (ms.map D.int)] ∧ ms.length ≤ 300 ∧ post (.fr (.lst ((isort (spreadL ms)).map D.int))) G
def turnM (ms : List Int) : List Int := ms.reverse.map fun m => ms.getLast?.getD 0 - m
def turnF : FSp := fun ds G post => ∃ ms : List Int, ds = [.tup (ms.map D.int)] ∧ (ms ≠ [] ∧ ms.length ≤ 300) ∧ post (.sh (.tup ((turnM ms).map D.int))) G
theorem atD_last {ms : List Int} (h : ms ≠ []) : atD (ms.map D.int) (-1) = some (.int (ms.getLast?.getD 0)) := by
  have hl : 0 < ms.length := List.length_pos_iff.mpr h
  unfold atD ixN
  rw [if_neg (by omega), List.length_map, if_pos (by omega)]
  show (ms.map D.int)[(-1 + (ms.length : Int)).toNat]? = _
  have e : (-1 + (ms.length : Int)).toNat = ms.length - 1 := by omega
  rw [e, List.getElem?_map, ← List.getLast?_eq_getElem?]
  obtain ⟨x, hx⟩ := Option.isSome_iff_exists.mp (by cases ms with | nil => exact absurd rfl h | cons a as => simp [List.getLast?_cons] : ms.getLast?.isSome = true)
  rw [hx]; rfl
/-! ### alike -/
/-- data that can be compared item by item, so deep -/
def alD : Nat → D → Prop
  | _, .non => True
  | _, .bl _ => True
  | _, .int _ => True
  | _, .str _ => True
  | n + 1, .tup ds => ds.length ≤ LIM ∧ ∀ d ∈ ds, alD n d
  | n + 1, .lst ds => ds.length ≤ LIM ∧ ∀ d ∈ ds, alD n d
  | _, _ => False
def alikeF (n : Nat) : FSp := fun ds G post => ∃ d, ds = [d, d] ∧ alD n d ∧ post (.sh (.bl true)) G
/-! ### different values -/
def dedI (ns : List Int) : List Int := ns.foldl (fun acc n => if n ∈ acc then acc else acc ++ [n]) []
def tdic (ns : List Int) : List (Key × D) := ns.foldl (fun acc n => putD acc (.inl n) (.bl true)) []
def tkv (ks : List Int) : List (Key × D) := ks.map fun n => (Sum.inl n, D.bl true)
theorem putD_tkv (ks : List Int) (n : Int) : putD (tkv ks) (.inl n) (.bl true) = tkv (if n ∈ ks then ks else ks ++ [n]) := by
  unfold putD
  have e : ((tkv ks).any fun kv => decide (kv.1 = Sum.inl n)) = decide (n ∈ ks) := by
    unfold tkv
    rw [List.any_map]
    induction ks with
    | nil => rfl
    | cons a as ih =>
      rw [List.any_cons, ih]
      by_cases h : a = n
      · subst h; simp
      · have h' : ¬ n = a := fun z => h z.symm
        simp [h, h']
  rw [e]
  by_cases h : n ∈ ks
  · rw [if_pos (decide_eq_true h), if_pos h]
    unfold tkv
    rw [List.map_map]
    refine List.map_congr_left fun a _ => ?_
    show (if (Sum.inl a : Key) = Sum.inl n then ((Sum.inl a : Key), D.bl true) else ((Sum.inl a : Key), D.bl true)) = _
    split <;> rfl
  · rw [if_neg (by simpa using h), if_neg h]
    unfold tkv
    rw [List.map_append]; rfl
theorem tdic_fold : ∀ (ns ks : List Int), ns.foldl (fun acc n => putD acc (.inl n) (.bl true)) (tkv ks) = tkv (ns.foldl (fun acc n => if n ∈ acc then acc else acc ++ [n]) ks)
  | [], _ => rfl
  | n :: ns, ks => by rw [List.foldl_cons, List.foldl_cons, putD_tkv, tdic_fold ns]
theorem tdic_eq (ns : List Int) : tdic ns = tkv (dedI ns) := tdic_fold ns []
theorem dicD_tdic (ns : List Int) : dicD (tdic ns) = .dic ((dedI ns).map Sum.inl) ((dedI ns).map fun _ => D.bl true) := by
  rw [tdic_eq]
  unfold dicD tkv
  rw [List.map_map, List.map_map]; rfl
theorem tdic_len (ns : List Int) : (tdic ns).length ≤ ns.length := by
  rw [tdic_eq]
  unfold tkv dedI
  rw [List.length_map]
  have key : ∀ (ns ks : List Int), (ns.foldl (fun acc n => if n ∈ acc then acc else acc ++ [n]) ks).length ≤ ks.length + ns.length := by
    intro ns
    induction ns with
    | nil => intro ks; exact Nat.le_refl _
    | cons n ns ih =>
      intro ks
      rw [List.foldl_cons, List.length_cons]
      refine Nat.le_trans (ih _) ?_
      split
      · omega
      · rw [List.length_append, List.length_singleton]; omega
  simpa using key ns []
theorem tdic_snoc {ns : List Int} {k : Nat} {n : Int} (h : ns[k]? = some n) : tdic (ns.take (k + 1)) = putD (tdic (ns.take k)) (.inl n) (.bl true) := by
  unfold tdic
  rw [take_snoc h, List.foldl_append]; rfl
def diffF : FSp := fun ds G post => ∃ ns : List Int, ds = [.lst (ns.map D.int)] ∧ ns.length ≤ 90000 ∧ post (.fr (.lst ((isort (dedI ns)).map D.int))) G
/-! ### numbers -/
def numB (lo hi : Int) : D → Bool
  | .int v => decide (lo ≤ v) && decide (v ≤ hi)
  | _ => false
def numF : FSp := fun ds G post => ∃ (d : D) (lo hi : Int), ds = [d, .int lo, .int hi] ∧ (tyD d).isSome = true ∧ post (.sh (.bl (numB lo hi d))) G
/-! ### isinstance of built-in classes -/
theorem kt_NoneType_bool {K : PySem.W.Frag} : PySem.W.kitOne K (.type "NoneType") (.type "bool") = some false := kit_ty (by decide +kernel)
theorem kt_NoneType_int {K : PySem.W.Frag} : PySem.W.kitOne K (.type "NoneType") (.type "int") = some false := kit_ty (by decide +kernel)
theorem kt_NoneType_str {K : PySem.W.Frag} : PySem.W.kitOne K (.type "NoneType") (.type "str") = some false := kit_ty (by decide +kernel)
theorem kt_NoneType_tuple {K : PySem.W.Frag} : PySem.W.kitOne K (.type "NoneType") (.type "tuple") = some false := kit_ty (by decide +kernel)
theorem kt_NoneType_list {K : PySem.W.Frag} : PySem.W.kitOne K (.type "NoneType") (.type "list") = some false := kit_ty (by decide +kernel)
theorem kt_NoneType_dict {K : PySem.W.Frag} : PySem.W.kitOne K (.type "NoneType") (.type "dict") = some false := kit_ty (by decide +kernel)
theorem kt_bool_bool {K : PySem.W.Frag} : PySem.W.kitOne K (.type "bool") (.type "bool") = some true := kit_ty (by decide +kernel)
theorem kt_bool_int {K : PySem.W.Frag} : PySem.W.kitOne K (.type "bool") (.type "int") = some true := kit_ty (by decide +kernel)
theorem kt_bool_str {K : PySem.W.Frag} : PySem.W.kitOne K (.type "bool") (.type "str") = some false := kit_ty (by decide +kernel)
theorem kt_bool_tuple {K : PySem.W.Frag} : PySem.W.kitOne K (.type "bool") (.type "tuple") = some false := kit_ty (by decide +kernel)
theorem kt_bool_list {K : PySem.W.Frag} : PySem.W.kitOne K (.type "bool") (.type "list") = some false := kit_ty (by decide +kernel)
theorem kt_bool_dict {K : PySem.W.Frag} : PySem.W.kitOne K (.type "bool") (.type "dict") = some false := kit_ty (by decide +kernel)
theorem kt_int_bool {K : PySem.W.Frag} : PySem.W.kitOne K (.type "int") (.type "bool") = some false := kit_ty (by decide +kernel)
theorem kt_int_int {K : PySem.W.Frag} : PySem.W.kitOne K (.type "int") (.type "int") = some true := kit_ty (by decide +kernel)
theorem kt_int_str {K : PySem.W.Frag} : PySem.W.kitOne K (.type "int") (.type "str") = some false := kit_ty (by decide +kernel)
theorem kt_int_tuple {K : PySem.W.Frag} : PySem.W.kitOne K (.type "int") (.type "tuple") = some false := kit_ty (by decide +kernel)
theorem kt_int_list {K : PySem.W.Frag} : PySem.W.kitOne K (.type "int") (.type "list") = some false := kit_ty (by decide +kernel)
theorem kt_int_dict {K : PySem.W.Frag} : PySem.W.kitOne K (.type "int") (.type "dict") = some false := kit_ty (by decide +kernel)
theorem kt_str_bool {K : PySem.W.Frag} : PySem.W.kitOne K (.type "str") (.type "bool") = some false := kit_ty (by decide +kernel)
theorem kt_str_int {K : PySem.W.Frag} : PySem.W.kitOne K (.type "str") (.type "int") = some false := kit_ty (by decide +kernel)
theorem kt_str_str {K : PySem.W.Frag} : PySem.W.kitOne K (.type "str") (.type "str") = some true := kit_ty (by decide +kernel)
theorem kt_str_tuple {K : PySem.W.Frag} : PySem.W.kitOne K (.type "str") (.type "tuple") = some false := kit_ty (by decide +kernel)
theorem kt_str_list {K : PySem.W.Frag} : PySem.W.kitOne K (.type "str") (.type "list") = some false := kit_ty (by decide +kernel)
theorem kt_str_dict {K : PySem.W.Frag} : PySem.W.kitOne K (.type "str") (.type "dict") = some false := kit_ty (by decide +kernel)
theorem kt_tuple_bool {K : PySem.W.Frag} : PySem.W.kitOne K (.type "tuple") (.type "bool") = some false := kit_ty (by decide +kernel)
theorem kt_tuple_int {K : PySem.W.Frag} : PySem.W.kitOne K (.type "tuple") (.type "int") = some false := kit_ty (by decide +kernel)
theorem kt_tuple_str {K : PySem.W.Frag} : PySem.W.kitOne K (.type "tuple") (.type "str") = some false := kit_ty (by decide +kernel)
theorem kt_tuple_tuple {K : PySem.W.Frag} : PySem.W.kitOne K (.type "tuple") (.type "tuple") = some true := kit_ty (by decide +kernel)
theorem kt_tuple_list {K : PySem.W.Frag} : PySem.W.kitOne K (.type "tuple") (.type "list") = some false := kit_ty (by decide +kernel)
theorem kt_tuple_dict {K : PySem.W.Frag} : PySem.W.kitOne K (.type "tuple") (.type "dict") = some false := kit_ty (by decide +kernel)
theorem kt_list_bool {K : PySem.W.Frag} : PySem.W.kitOne K (.type "list") (.type "bool") = some false := kit_ty (by decide +kernel)
theorem kt_list_int {K : PySem.W.Frag} : PySem.W.kitOne K (.type "list") (.type "int") = some false := kit_ty (by decide +kernel)
theorem kt_list_str {K : PySem.W.Frag} : PySem.W.kitOne K (.type "list") (.type "str") = some false := kit_ty (by decide +kernel)
theorem kt_list_tuple {K : PySem.W.Frag} : PySem.W.kitOne K (.type "list") (.type "tuple") = some false := kit_ty (by decide +kernel)
theorem kt_list_list {K : PySem.W.Frag} : PySem.W.kitOne K (.type "list") (.type "list") = some true := kit_ty (by decide +kernel)
theorem kt_list_dict {K : PySem.W.Frag} : PySem.W.kitOne K (.type "list") (.type "dict") = some false := kit_ty (by decide +kernel)
theorem kt_dict_bool {K : PySem.W.Frag} : PySem.W.kitOne K (.type "dict") (.type "bool") = some false := kit_ty (by decide +kernel)
theorem kt_dict_int {K : PySem.W.Frag} : PySem.W.kitOne K (.type "dict") (.type "int") = some false := kit_ty (by decide +kernel)
theorem kt_dict_str {K : PySem.W.Frag} : PySem.W.kitOne K (.type "dict") (.type "str") = some false := kit_ty (by decide +kernel)
theorem kt_dict_tuple {K : PySem.W.Frag} : PySem.W.kitOne K (.type "dict") (.type "tuple") = some false := kit_ty (by decide +kernel)
theorem kt_dict_list {K : PySem.W.Frag} : PySem.W.kitOne K (.type "dict") (.type "list") = some false := kit_ty (by decide +kernel)
theorem kt_dict_dict {K : PySem.W.Frag} : PySem.W.kitOne K (.type "dict") (.type "dict") = some true := kit_ty (by decide +kernel)

/-! ### __init__ of a class with two slots -/
theorem init_frame {F G H F' H' H2 : Hp} {x dx C : Addr} {vs : List (Option V)} (B : Bas F (Tof G H) F' G H') (fx : F x = none) (fd : F dx = none) (gx : G x = none) (gd : G dx = none) (hx : H x = some (.ins C dx [])) (hd : H dx = some (.own x)) (hne : dx ≠ x) (e2 : H2 = SlX.slH H' x C dx vs) :
    ∃ F2, Ex F' F2 ∧ Bas F (fun a => if a = x ∨ a = dx then none else Tof G H a) F2 G H2 ∧ SlX.Slt F2 x C dx vs := by
  have tx : Tof G H x = some (.ins C dx []) := by rw [Tof_none gx]; exact hx
  have td : Tof G H dx = some (.own x) := by rw [Tof_none gd]; exact hd
  have fx' : F' x = none := by
    cases e : F' x with
    | none => rfl
    | some u =>
      rcases B.ft x u e with z | z
      · rw [fx] at z; cases z
      · rw [tx] at z; cases z
  have fd' : F' dx = none := by
    cases e : F' dx with
    | none => rfl
    | some u =>
      rcases B.ft dx u e with z | z
      · rw [fd] at z; cases z
      · rw [td] at z; cases z
  have h2 : ∀ a, a ≠ x → a ≠ dx → H2 a = H' a := fun a h1 h2 => by rw [e2]; exact SlX.slH_ne h1 h2
  refine ⟨SlX.slH F' x C dx vs, fun a o h => ?_, ⟨fun a o h => ?_, fun a o h => ?_, fun a o h => ?_, fun a o h => ?_, fun a o h => ?_, fun a o h => by split; rfl; exact Tof_some h, fun a o h => ?_⟩, SlX.slH_slt hne⟩
  · rw [SlX.slH_ne (ne_of_none h fx') (ne_of_none h fd')]; exact h
  · rw [SlX.slH_ne (ne_of_none h fx) (ne_of_none h fd)]; exact B.ff a o h
  · by_cases h1 : a = x
    · right; rw [if_pos (.inl h1)]
    · by_cases h2 : a = dx
      · right; rw [if_pos (.inr h2)]
      · rw [SlX.slH_ne h1 h2] at h
        rcases B.ft a o h with z | z
        · exact .inl z
        · right; rw [if_neg (by simp [h1, h2])]; exact z
  · by_cases h1 : a = x
    · subst h1; rw [e2]; unfold SlX.slH at h ⊢; rw [upd_same] at h ⊢; exact h
    · by_cases h3 : a = dx
      · subst h3; rw [e2]; unfold SlX.slH at h ⊢; rw [upd_ne h1, upd_same] at h ⊢; exact h
      · rw [SlX.slH_ne h1 h3] at h; rw [h2 a h1 h3]; exact B.fh a o h
  · rw [h2 a (ne_of_none h gx) (ne_of_none h gd)]; exact B.gh a o h
  · rw [SlX.slH_ne (ne_of_none h gx) (ne_of_none h gd)]; exact B.fg a o h
  · by_cases h1 : a = x ∨ a = dx
    · rw [if_pos h1] at h; cases h
    · rw [if_neg h1] at h
      rw [h2 a (fun z => h1 (.inl z)) (fun z => h1 (.inr z))]; exact B.tk a o h
section
variable {P : Program} {w : World} {K : PySem.W.Frag} {mg : Str → Option Value} {base : Heap}
theorem init2_ok {x qual : Str} {st : Stmt} {g : Addr} {fd : FuncData} {N ps : List Str} {k : Nat} {C q0 q1 : Addr} {f0 f1 : Str} {f : List D → Option (List D)} (Fo : Fun K x qual st g fd) (S : FnScope N ps (defScope st)) (c : SlX.SCls K C) (t0 : SlX.Slot1 K C f0 q0 0) (t1 : SlX.Slot1 K C f1 q1 1)
    (len : ∀ ds ys, f ds = some ys → ds.length + 1 = ps.length)
    (pre : List Stmt) (s0 s1 : Stmt) (i0 i1 : Nat) (hb : defBody st = pre ++ [s0, s1])
    (hbody : ∀ (cdv : Value) (A : Around) (outer : List Env) (s : Shared) (H : Hp) (E : XK), Room k (A.deeper (envOfC qual (defScope st) s.heap.objs.size g cdv)) →
      PS (cxOf CX0 P w K mg base N qual (defScope st) g cdv A outer s H E).nox s0 (SlX.sSl K (tVar 0) (tVar i0) f0) ∧ PS (cxOf CX0 P w K mg base N qual (defScope st) g cdv A outer s H E).nox s1 (SlX.sSl K (tVar 0) (tVar i1) f1) ∧
      ∀ (a : Addr) (ds ys : List D) (G : Hp), f ds = some ys →
      WB (cxOf CX0 P w K mg base N qual (defScope st) g cdv A outer s H E).nox pre (startD N (.adr a :: ds)) G { nx := fun r G' => G' = G ∧ r[0]? = some (Sl.sh (.adr a)) ∧ ∃ d0 d1, ys = [d0, d1] ∧ r[i0]? = some (Sl.sh d0) ∧ r[i1]? = some (Sl.sh d1), rt := fun _ _ => False }) :
    FnOk P w K mg base CX0 (k + 1) g fd ps (spI K C f) := by
  refine Fo.ok S (fun vs H Q E h => ?_) (fun cdv A outer s H vs Q E hr h => ?_)
  · obtain ⟨a, dx, us, F, G, ds, ys, rfl, _, _, _, _, _, _, _, _, _, _, rp, hf, _⟩ := h
    rw [List.length_cons, rp.length]; exact len ds ys hf
  · obtain ⟨a, dx, us, F, G, ds, ys, rfl, hx, hd, hne, fx, fdx, gx, gdx, e1, e2, e3, rp, hf, hq⟩ := h
    refine ⟨RunB _ (defBody st), pbR, ?_⟩
    obtain ⟨p0, p1, hW⟩ := hbody cdv A outer s H E hr
    have hl : (D.adr a :: ds).length ≤ N.length := by
      rw [List.length_cons, len ds ys hf]
      have := congrArg List.length S.pre
      rw [List.length_take] at this
      omega
    rw [hb]
    have S0 := sta_start (N := N) (ds := .adr a :: ds) (vs := .ref a :: us) hl e1 e2 e3 ⟨_, _, rfl, rfl, rp⟩
    have go := hW a ds ys G hf F (Tof G H) F H (L2.start N (.ref a :: us)) S0
    refine runB_then (go.mono (fun σ' H' ⟨r', G', F', S', hG, h0, d0, d1, hy, h1, h2⟩ => ?_) (fun v H' ⟨x, G', F', B, rt, q⟩ => q.elim) (fun _ _ ⟨_, _, _, _, q⟩ => q) (fun _ _ ⟨_, _, _, _, q⟩ => q))
    subst hG hy
    obtain ⟨va, a1, a2⟩ := S'.sl 0 _ h0
    obtain ⟨v0, b1, b2⟩ := S'.sl i0 _ h1
    obtain ⟨v1, c1, c2⟩ := S'.sl i1 _ h2
    cases (show va = .ref a from a2)
    have tx : H' a = some (.ins C dx []) := S'.bas.tk a _ (by rw [Tof_none gx]; exact hx)
    have hs0 : SlX.Slt H' a C dx [] := .inl ⟨tx, rfl⟩
    have two : SlX.putS 1 v1 (SlX.putS 0 v0 []) = [some v0, some v1] := rfl
    refine RunB.of (pss_cons p0 (pss_cons p1 pss_nil)) ⟨v0, b1, .ref a, a1, a, C, dx, q0, [], 0, rfl, hs0, c, t0, v1, c1, .ref a, a1, a, C, dx, q1, _, 1, rfl, SlX.slH_slt hne, c, t1, ?_⟩
    rw [SlX.slH_twice hne, two]
    obtain ⟨F2, f1, f2, f3⟩ := init_frame (vs := [some v0, some v1]) S'.bas fx fdx gx gdx hx hd hne rfl
    exact hq _ F2 f2 ⟨a, dx, [v0, v1], rfl, f3, v0, [v1], rfl, Rep.mono f1 _ _ b2, .one (Rep.mono f1 _ _ c2)⟩
theorem init2r_ok {x qual : Str} {st : Stmt} {g : Addr} {fd : FuncData} {N ps : List Str} {k : Nat} {C q0 q1 : Addr} {f0 f1 : Str} {f : List D → Option (List D)} (Fo : Fun K x qual st g fd) (S : FnScope N ps (defScope st)) (c : SlX.SCls K C) (t0 : SlX.Slot1 K C f0 q0 1) (t1 : SlX.Slot1 K C f1 q1 0)
    (len : ∀ ds ys, f ds = some ys → ds.length + 1 = ps.length)
    (pre : List Stmt) (s0 s1 : Stmt) (i0 i1 : Nat) (hb : defBody st = pre ++ [s0, s1])
    (hbody : ∀ (cdv : Value) (A : Around) (outer : List Env) (s : Shared) (H : Hp) (E : XK), Room k (A.deeper (envOfC qual (defScope st) s.heap.objs.size g cdv)) →
      PS (cxOf CX0 P w K mg base N qual (defScope st) g cdv A outer s H E).nox s0 (SlX.sSl K (tVar 0) (tVar i0) f0) ∧ PS (cxOf CX0 P w K mg base N qual (defScope st) g cdv A outer s H E).nox s1 (SlX.sSl K (tVar 0) (tVar i1) f1) ∧
      ∀ (a : Addr) (ds ys : List D) (G : Hp), f ds = some ys →
      WB (cxOf CX0 P w K mg base N qual (defScope st) g cdv A outer s H E).nox pre (startD N (.adr a :: ds)) G { nx := fun r G' => G' = G ∧ r[0]? = some (Sl.sh (.adr a)) ∧ ∃ d0 d1, ys = [d1, d0] ∧ r[i0]? = some (Sl.sh d0) ∧ r[i1]? = some (Sl.sh d1), rt := fun _ _ => False }) :
    FnOk P w K mg base CX0 (k + 1) g fd ps (spI K C f) := by
  refine Fo.ok S (fun vs H Q E h => ?_) (fun cdv A outer s H vs Q E hr h => ?_)
  · obtain ⟨a, dx, us, F, G, ds, ys, rfl, _, _, _, _, _, _, _, _, _, _, rp, hf, _⟩ := h
    rw [List.length_cons, rp.length]; exact len ds ys hf
  · obtain ⟨a, dx, us, F, G, ds, ys, rfl, hx, hd, hne, fx, fdx, gx, gdx, e1, e2, e3, rp, hf, hq⟩ := h
    refine ⟨RunB _ (defBody st), pbR, ?_⟩
    obtain ⟨p0, p1, hW⟩ := hbody cdv A outer s H E hr
    have hl : (D.adr a :: ds).length ≤ N.length := by
      rw [List.length_cons, len ds ys hf]
      have := congrArg List.length S.pre
      rw [List.length_take] at this
      omega
    rw [hb]
    have S0 := sta_start (N := N) (ds := .adr a :: ds) (vs := .ref a :: us) hl e1 e2 e3 ⟨_, _, rfl, rfl, rp⟩
    have go := hW a ds ys G hf F (Tof G H) F H (L2.start N (.ref a :: us)) S0
    refine runB_then (go.mono (fun σ' H' ⟨r', G', F', S', hG, h0, d0, d1, hy, h1, h2⟩ => ?_) (fun v H' ⟨x, G', F', B, rt, q⟩ => q.elim) (fun _ _ ⟨_, _, _, _, q⟩ => q) (fun _ _ ⟨_, _, _, _, q⟩ => q))
    subst hG hy
    obtain ⟨va, a1, a2⟩ := S'.sl 0 _ h0
    obtain ⟨v0, b1, b2⟩ := S'.sl i0 _ h1
    obtain ⟨v1, c1, c2⟩ := S'.sl i1 _ h2
    cases (show va = .ref a from a2)
    have tx : H' a = some (.ins C dx []) := S'.bas.tk a _ (by rw [Tof_none gx]; exact hx)
    have hs0 : SlX.Slt H' a C dx [] := .inl ⟨tx, rfl⟩
    have two : SlX.putS 0 v1 (SlX.putS 1 v0 []) = [some v1, some v0] := rfl
    refine RunB.of (pss_cons p0 (pss_cons p1 pss_nil)) ⟨v0, b1, .ref a, a1, a, C, dx, q0, [], 1, rfl, hs0, c, t0, v1, c1, .ref a, a1, a, C, dx, q1, _, 0, rfl, SlX.slH_slt hne, c, t1, ?_⟩
    rw [SlX.slH_twice hne, two]
    obtain ⟨F2, f1, f2, f3⟩ := init_frame (vs := [some v1, some v0]) S'.bas fx fdx gx gdx hx hd hne rfl
    exact hq _ F2 f2 ⟨a, dx, [v1, v0], rfl, f3, v1, [v0], rfl, Rep.mono f1 _ _ c2, .one (Rep.mono f1 _ _ b2)⟩
end
/-! ### a class of the module, by the fragment's facts -/
theorem kit_same {K : PySem.W.Frag} {t : Value} (h : (t == t) = true) : PySem.W.kitOne K t t = some true := if_pos h
theorem kit_ref {K : PySem.W.Frag} {t : Value} {C : Addr} {b : Bool} (hne : (t == .ref C) = false) (hc : PySem.W.isClsIn K C = true) (ht : PySem.W.typeIn K (.ref C) = some (.type "type")) (hs : PySem.W.subIn K t (.ref C) = some b) : PySem.W.kitOne K t (.ref C) = some b := by
  unfold PySem.W.kitOne
  rw [if_neg (by rw [hne]; exact Bool.false_ne_true)]
  unfold PySem.W.kitCls
  dsimp only
  rw [if_pos, hs]
  rw [ht]
  unfold PySem.W.isClsIn at hc
  rw [hc]
  rfl

/-! ### turned marks -/
theorem spread_snoc (x : Int) : ∀ A : List Int, (spreadL (A ++ [x])).Perm (spreadL A ++ A.map fun o => x - o)
  | [] => List.Perm.refl _
  | a :: A => by
    have ih := spread_snoc x A
    show ((A ++ [x]).map (fun o => o - a) ++ spreadL (A ++ [x])).Perm ((A.map (fun o => o - a) ++ spreadL A) ++ (x - a) :: A.map fun o => x - o)
    rw [List.map_append, List.append_assoc, List.append_assoc]
    refine List.Perm.append_left _ ?_
    show ((x - a) :: spreadL (A ++ [x])).Perm _
    exact (List.Perm.cons _ ih).trans List.perm_middle.symm
theorem spread_turn (c : Int) : ∀ ms : List Int, (spreadL (ms.reverse.map fun m => c - m)).Perm (spreadL ms)
  | [] => List.Perm.refl _
  | m :: r => by
    rw [List.reverse_cons, List.map_append]
    refine (spread_snoc (c - m) _).trans ?_
    have e : (r.reverse.map fun m => c - m).map (fun o => c - m - o) = r.reverse.map fun o => o - m := by
      rw [List.map_map]
      refine List.map_congr_left fun o _ => ?_
      show c - m - (c - o) = o - m
      omega
    rw [e]
    refine ((spread_turn c r).append (List.Perm.map _ (List.reverse_perm r))).trans ?_
    exact List.perm_append_comm
theorem isort_congr {xs ys : List Int} (h : xs.Perm ys) : isort xs = isort ys := isort_of ((isort_perm xs).trans h) (isort_sorted xs)
theorem sorted_turn (ms : List Int) : isort (spreadL (turnM ms)) = isort (spreadL ms) := isort_congr (spread_turn _ ms)
theorem GoodM.ne {most len : Int} {ms : List Int} (h : GoodM most len ms) : ms ≠ [] := fun z => by
  have := h.two
  rw [z] at this
  exact absurd this (by decide)
theorem last_of {ms : List Int} (h : ms ≠ []) : ms.getLast?.getD 0 = ms.getLast h := by rw [List.getLast?_eq_some_getLast h]; rfl
theorem GoodM.last_le {most len : Int} {ms : List Int} (h : GoodM most len ms) : ∀ m ∈ ms, m ≤ ms.getLast?.getD 0 := fun m hm => by
  rw [last_of h.ne]
  have key : ∀ (xs : List Int) (hx : xs ≠ []), xs.Pairwise (· < ·) → ∀ m ∈ xs, m ≤ xs.getLast hx := by
    intro xs
    induction xs with
    | nil => intro hx; exact absurd rfl hx
    | cons a as ih =>
      intro hx hp m hm
      obtain ⟨h1, h2⟩ := List.pairwise_cons.mp hp
      by_cases ha : as = []
      · subst ha
        rcases List.mem_cons.mp hm with rfl | z
        · exact Int.le_refl _
        · cases z
      · rw [List.getLast_cons ha]
        rcases List.mem_cons.mp hm with rfl | z
        · exact Int.le_of_lt (h1 _ (List.getLast_mem ha))
        · exact ih ha h2 m z
  exact key ms h.ne h.asc m hm
theorem turnM_len (ms : List Int) : (turnM ms).length = ms.length := by unfold turnM; rw [List.length_map, List.length_reverse]
theorem GoodM.turn {most len : Int} {ms : List Int} (h : GoodM most len ms) : GoodM most len (turnM ms) := by
  refine ⟨?_, ?_, fun m hm => ?_, by rw [turnM_len]; exact h.two, by rw [turnM_len]; exact h.few⟩
  · unfold turnM
    rw [List.pairwise_map, List.pairwise_reverse]
    exact h.asc.imp fun z => by omega
  · unfold turnM
    rw [List.head?_map, List.head?_reverse]
    rw [List.getLast?_eq_some_getLast h.ne]
    show some (ms.getLast h.ne - ms.getLast h.ne) = some 0
    rw [Int.sub_self]
  · unfold turnM at hm
    obtain ⟨o, ho, rfl⟩ := List.mem_map.mp hm
    have ho' := List.mem_reverse.mp ho
    have h1 := h.last_le o ho'
    have h2 := h.le o ho'
    have h3 := h.le _ (List.getLast_mem h.ne)
    rw [last_of h.ne] at h1 ⊢
    omega
theorem GoodM.turn2 {most len : Int} {ms : List Int} (h : GoodM most len ms) : turnM (turnM ms) = ms := by
  have e1 : (turnM ms).getLast?.getD 0 = ms.getLast?.getD 0 := by
    unfold turnM
    rw [List.getLast?_map, List.getLast?_reverse, h.zero]
    show ms.getLast?.getD 0 - 0 = _
    omega
  have e2 : turnM (turnM ms) = (turnM ms).reverse.map fun m => ms.getLast?.getD 0 - m := by
    show (turnM ms).reverse.map (fun m => (turnM ms).getLast?.getD 0 - m) = _
    rw [e1]
  rw [e2]
  unfold turnM
  rw [← List.map_reverse, List.reverse_reverse, List.map_map]
  have : (fun m => ms.getLast?.getD 0 - m) ∘ (fun m => ms.getLast?.getD 0 - m) = id := by
    funext m
    show ms.getLast?.getD 0 - (ms.getLast?.getD 0 - m) = m
    omega
  rw [this, List.map_id]
def lawF (K : PySem.W.Frag) : FSp := fun ds G post => ∃ (a : Addr) (ns : List Int), ds = [.adr a] ∧ Scr K G a ns ∧ ∀ G', post (.sh (.bl true)) G'
theorem alD_int {n : Nat} (i : Int) : alD n (.int i) := by cases n <;> trivial
theorem alD_tupI {n : Nat} {ns : List Int} (h : ns.length ≤ LIM) : alD (n + 1) (.tup (ns.map D.int)) := ⟨by rw [List.length_map]; exact h, fun d hd => by
  obtain ⟨i, _, rfl⟩ := List.mem_map.mp hd
  exact alD_int i⟩
theorem alD_lstI {n : Nat} {ns : List Int} (h : ns.length ≤ LIM) : alD (n + 1) (.lst (ns.map D.int)) := ⟨by rw [List.length_map]; exact h, fun d hd => by
  obtain ⟨i, _, rfl⟩ := List.mem_map.mp hd
  exact alD_int i⟩
theorem dedI_len (ns : List Int) : (dedI ns).length ≤ ns.length := by
  have := tdic_len ns
  rw [tdic_eq] at this
  unfold tkv at this
  rw [List.length_map] at this
  exact this

section
variable {X : Cx} {e a b c o tg kx vx : Expr} {es : List Expr} {st : Stmt} {sts rest body orelse : List Stmt} {r : Env2} {G : Hp} {pos tpos apos cpos p0 p1 p2 : Pos} {D0 : EndsD}
/-- *e ahead of more arguments -/
theorem wa_star {Q : List D → Env2 → Hp → Prop} (h : WE X e r G fun x r1 G1 => ∃ d zs r2, fz r1 x = some (d, r2) ∧ (d = .tup zs ∨ d = .lst zs) ∧ WA X es r2 G1 fun ds r3 G3 => Q (zs ++ ds) r3 G3)
    (hs : starEach (.Starred e p0 :: es) X.env = (true, eval e X.env) :: starEach es X.env := by rfl) : WA X (.Starred e p0 :: es) r G Q := fun F0 T F H σ S =>
  RunA.of (StX.pa_star peR paR hs) ((h F0 T F H σ S).mono fun v H1 ⟨x, r1, G1, F1, e1, S1, k1, d, zs, r2, q1, hd, q2⟩ => by
    obtain ⟨F2, e2, S2, rp⟩ := S1.fz k1 q1
    have go : ∀ p xs, RepL X.K F2 zs xs → (SqT X.K H1 p xs ∨ SqL X.K H1 p xs) → v = .ref p → ∃ p xs, v = V.ref p ∧ (SqT X.K H1 p xs ∨ SqL X.K H1 p xs) ∧ RunA X es σ H1 fun ys H2 => ∃ ds r1 G1 F1, Ex F F1 ∧ Sta X.K F0 T F1 G1 H2 r1 σ ∧ RepL X.K F1 ds (xs ++ ys) ∧ Q ds r1 G1 := fun p xs hx hsq hv =>
      ⟨p, xs, hv, hsq, (q2 F0 T F2 H1 σ S2).mono fun vs H3 ⟨ds, r3, G3, F3, e3, S3, k3, q3⟩ => ⟨zs ++ ds, r3, G3, F3, (e1.trans e2).trans e3, S3, (RepL.mono e3 _ _ hx).append k3, q3⟩⟩
    rcases hd with rfl | rfl
    · obtain ⟨p, xs, hv, z1, z2⟩ := rp
      exact go p xs z2 (.inl (S2.bas.fh.sqT z1)) hv
    · obtain ⟨p, xs, hv, z1, z2⟩ := rp
      exact go p xs z2 (.inr (.inl (.inl (S2.bas.fh _ _ z1)))) hv)
/-- max, min of a list of ints -/
theorem c_maxL {Q : Res → Prop} {ns : List Int} (hc : X.calm = true) (hn : ns ≠ []) (q : ∀ m, m ∈ ns → (∀ y ∈ ns, y ≤ m) → Q (.sh (.int m))) : CallW1 X (.builtin "max") (.lst (ns.map D.int)) Q := fun F0 T F G H r σ v S h => by
  obtain ⟨p, vs, rfl, k1, k2⟩ := h.lst S.bas.fh
  cases k2.ints
  exact ⟨_, cr_max hc, p, ns, rfl, .inl (.inl k1), List.length_pos_iff.mpr hn, fun m h1 h2 => ⟨.sh (.int m), F, Ex.refl _, S, rfl, q m h1 h2⟩⟩
theorem c_minL {Q : Res → Prop} {ns : List Int} (hc : X.calm = true) (hn : ns ≠ []) (q : ∀ m, m ∈ ns → (∀ y ∈ ns, m ≤ y) → Q (.sh (.int m))) : CallW1 X (.builtin "min") (.lst (ns.map D.int)) Q := fun F0 T F G H r σ v S h => by
  obtain ⟨p, vs, rfl, k1, k2⟩ := h.lst S.bas.fh
  cases k2.ints
  exact ⟨_, cr_min hc, p, ns, rfl, .inl (.inl k1), List.length_pos_iff.mpr hn, fun m h1 h2 => ⟨.sh (.int m), F, Ex.refl _, S, rfl, q m h1 h2⟩⟩
/-- xs.index(k), ints -/
theorem mw_index {Q : Res → Prop} {ns : List Int} {k : Int} {j : Nat} (hj : ns[j]? = some k) (hno : ∀ m, m < j → ns[m]? ≠ some k) (q : Q (.sh (.int (j : Nat)))) : MtW X "list.index" (.lst (ns.map D.int)) (.int k) Q := fun F0 T F G H r σ v w S h hw => by
  obtain ⟨p, vs, rfl, k1, k2⟩ := h.lst S.bas.fh
  cases k2.ints
  cases hw.int
  refine ⟨_, mt_index, p, ns.map V.int, .int k, j, .int k, rfl, rfl, .inl (.inl k1), rfl, ?_, ?_, beq_self_eq_true k, fun m z' hm hz => ?_, .sh (.int (j : Nat)), F, Ex.refl _, S, rfl, q⟩
  · rw [List.all_map]; exact List.all_eq_true.mpr fun _ _ => rfl
  · rw [List.getElem?_map, hj]; rfl
  · rw [List.getElem?_map] at hz
    cases e : ns[m]? with
    | none => rw [e] at hz; cases hz
    | some n =>
      rw [e] at hz
      cases hz
      exact beq_eq_false_iff_ne.mpr fun z => hno m hm (by rw [e, z])
theorem mw_count {Q : Res → Prop} {ns : List Int} {k : Int} (q : Q (.sh (.int (ns.count k : Nat)))) : MtW X "list.count" (.lst (ns.map D.int)) (.int k) Q := fun F0 T F G H r σ v w S h hw => by
  obtain ⟨p, vs, rfl, k1, k2⟩ := h.lst S.bas.fh
  cases k2.ints
  cases hw.int
  exact ⟨_, mt_lcount, p, ns, k, rfl, rfl, .inl (.inl k1), .sh (.int (ns.count k : Nat)), F, Ex.refl _, S, rfl, q⟩
theorem we_index {Q : Res → Env2 → Hp → Prop}
    (h : WE X o r G fun x r1 G1 => ∃ ds0, VwR r1 G1 x (.lst ds0) ∧ WE X e r1 G1 fun y r2 G2 => ∃ dr da, VwR r2 G2 x dr ∧ VwR r2 G2 y da ∧ MtW X "list.index" dr da fun z => Q z r2 G2)
    (hbase : attributeBase o "index" X.env (eval o X.env) = eval o X.env := by rfl)
    (hfew : ((backTo cpos (starEach [e] X.env)).all (fun x => !x.1) && (backToKw cpos (keywordEach [] X.env)).all (fun x => x.1.isSome) && decide (([e] : List Expr).length + ([] : List Keyword).length + (if ([] : List Keyword).isEmpty then 0 else 1) < 30)) = true := by rfl)
    (hline : (apos.endLine == cpos.line) = true := by rfl) (hs : starEach [e] X.env = (false, eval e X.env) :: starEach [] X.env := by rfl) (hplain : (backTo cpos (starEach [] X.env)).any (·.1) = false := by rfl) :
    WE X (.Call (.Attribute o "index" apos) [e] [] cpos) r G Q := we_r1 PySem.F.plainAttrs_list PySem.F.slot_list_index PySem.F.type_list_index h hbase hfew hline hs hplain
theorem we_count {Q : Res → Env2 → Hp → Prop}
    (h : WE X o r G fun x r1 G1 => ∃ ds0, VwR r1 G1 x (.lst ds0) ∧ WE X e r1 G1 fun y r2 G2 => ∃ dr da, VwR r2 G2 x dr ∧ VwR r2 G2 y da ∧ MtW X "list.count" dr da fun z => Q z r2 G2)
    (hbase : attributeBase o "count" X.env (eval o X.env) = eval o X.env := by rfl)
    (hfew : ((backTo cpos (starEach [e] X.env)).all (fun x => !x.1) && (backToKw cpos (keywordEach [] X.env)).all (fun x => x.1.isSome) && decide (([e] : List Expr).length + ([] : List Keyword).length + (if ([] : List Keyword).isEmpty then 0 else 1) < 30)) = true := by rfl)
    (hline : (apos.endLine == cpos.line) = true := by rfl) (hs : starEach [e] X.env = (false, eval e X.env) :: starEach [] X.env := by rfl) (hplain : (backTo cpos (starEach [] X.env)).any (·.1) = false := by rfl) :
    WE X (.Call (.Attribute o "count" apos) [e] [] cpos) r G Q := we_r1 PySem.F.plainAttrs_list PySem.F.slot_list_count PySem.F.type_list_count h hbase hfew hline hs hplain
theorem we_tupR1 {Q : Res → Env2 → Hp → Prop} (hc : X.calm = true) (hg : Gl X "tuple") (hm : X.mg "tuple" = none) (hg2 : Gl X "range") (hm2 : X.mg "range" = none)
    (h : WE X a r G fun x r1 G1 => ∃ n, vw r1 x = some (.int n) ∧ RgOk 0 n ∧ Q (.sh (.tup ((rgI 0 n).map D.int))) r1 G1) (na : starEach [a] X.env = (false, eval a X.env) :: starEach [] X.env := by rfl)
    (na2 : starEach [.Call (.Name "range" p1) [a] [] p2] X.env = (false, eval (.Call (.Name "range" p1) [a] [] p2) X.env) :: starEach [] X.env := by rfl) : WE X (.Call (.Name "tuple" p0) [.Call (.Name "range" p1) [a] [] p2] [] pos) r G Q := fun F0 T F H σ S =>
  Run.of (pe_tupRg hc hg hm (prg_1 hg2 hm2 peR na) na2) ((h F0 T F H σ S).mono fun v H1 ⟨x, r1, G1, F1, e1, S1, k1, n, q1, ok, q⟩ => by
    refine ⟨n, (S1.view k1 q1).int, ok, fun l hl => ?_⟩
    rw [← rgI_V]
    obtain ⟨x', F', f1, f2, f3, f4⟩ := new_tup S1 (RepL.of_ints (rgI 0 n)) hl (Q := fun z => Q z r1 G1) q
    exact ⟨x', r1, G1, F', e1.trans f1, f2, f3, f4⟩)
theorem call_lenR : CallR X (.builtin "len") (fun xs H Q => ∃ a kvs, xs = [V.ref a] ∧ Rd H a (.dK kvs) ∧ Q (.int (kvs.length : Nat)) H) := fun pins s σ H xs us Q I rv ⟨a, kvs, ex, hd, q⟩ => by
  subst ex
  obtain ⟨u, rfl, ru⟩ := rv.one
  cases (show u = Value.ref a from ru)
  exact d_len I hd fun t s' I' => ⟨.int (kvs.length : Nat), H, I', ⟨t, rfl⟩, q⟩
theorem c_lenD {Q : Res → Prop} {acc : List (Key × D)} (q : Q (.sh (.int (acc.length : Nat)))) : CallW1 X (.builtin "len") (dicD acc) Q := fun F0 T F G H r σ v S h => by
  obtain ⟨p, vs, rfl, k1, k2, k3⟩ := h.dic S.bas.fh
  have e : ((acc.map (·.1)).zip vs).length = acc.length := by
    rw [List.length_zip, List.length_map, k3.length, List.length_map, Nat.min_self]
  refine ⟨_, call_lenR, p, _, rfl, k1, .sh (.int (acc.length : Nat)), F, Ex.refl _, S, ?_, q⟩
  show V.int _ = V.int _
  rw [e]
/-- a, b = e, e a pair -/
theorem ws_unp2 (i j : Nat) {x y : Str} {px py tpos : Pos} {k : Nat} (hc : X.calm = true) (nd : X.N.Nodup) (hi : X.N[i]? = some x) (hj : X.N[j]? = some y) (hx : L2.Loc X.env.scope x) (hy : L2.Loc X.env.scope y)
    (h : WE X e r G fun z r1 G1 => ∃ d1 d2 r2, fz r1 z = some (.tup [d1, d2], r2) ∧ i < r2.length ∧ j < r2.length ∧ D0.nx ((r2.set i (.sh d1)).set j (.sh d2)) G1)
    (hfx : X.fn x = true ∨ X.env.scope.names.lookup x = some .local := by first | exact .inl rfl | exact .inr rfl | assumption) (hfy : X.fn y = true ∨ X.env.scope.names.lookup y = some .local := by first | exact .inl rfl | exact .inr rfl | assumption)
    (hn : (assignEach [.Name x px, .Name y py] X.env).length = 2 := by rfl) (hf : (assignEach [.Name x px, .Name y py] X.env).findIdx? (·.1) = none := by rfl)
    (hs : swapsWithSole [.Tuple [.Name x px, .Name y py] k tpos] e pos.line X.env = pure false := by rfl) (hw : swappedStores [.Tuple [.Name x px, .Name y py] k tpos] e X.env = pure none := by rfl)
    (h1 : (assignEach [.Tuple [.Name x px, .Name y py] k tpos] X.env).map (·.2) = [assign (.Tuple [.Name x px, .Name y py] k tpos) X.env] := by rfl) : WS X (.Assign [.Tuple [.Name x px, .Name y py] k tpos] e pos) r G D0 :=
  ws_unpack [i, j] hc (.cons (pg_name nd hi hx hfx) (.cons (pg_name nd hj hy hfy) .nil)) (fun t ht us => by
    rcases List.mem_cons.mp ht with rfl | ht
    · rfl
    · cases List.mem_singleton.mp ht; rfl) (h.mono fun z r1 G1 ⟨d1, d2, r2, q1, q2, q3, q4⟩ => ⟨[d1, d2], r2, q1, rfl, fun k hk => by
      rcases List.mem_cons.mp hk with rfl | hk
      · exact q2
      · cases List.mem_singleton.mp hk; exact q3, q4⟩) hn hf hs hw h1
end
def spreadB : FSp := fun ds G post => ∃ ms : List Int, (ds = [.tup (ms.map D.int)] ∨ ds = [.lst (ms.map D.int)]) ∧ ms.length ≤ 300 ∧ post (.fr (.lst ((isort (spreadL ms)).map D.int))) G
theorem eqD_nil (ns : List Int) : eqD (.lst (ns.map D.int)) (.lst []) = decide (ns = []) := eqD_ints ns []
theorem eqD_nilT (ns : List Int) : eqD (.tup (ns.map D.int)) (.tup []) = decide (ns = []) := eqD_intsT ns []
/-! ### sorting, in a form that computes -/
def insI (x : Int) : List Int → List Int
  | [] => [x]
  | y :: ys => if x ≤ y then x :: y :: ys else y :: insI x ys
def srtI : List Int → List Int
  | [] => []
  | x :: xs => insI x (srtI xs)
theorem insI_perm (x : Int) : ∀ ys, (insI x ys).Perm (x :: ys)
  | [] => List.Perm.refl _
  | y :: ys => by
    unfold insI
    split
    · exact List.Perm.refl _
    · exact ((insI_perm x ys).cons y).trans (List.Perm.swap _ _ _)
theorem insI_sorted (x : Int) : ∀ ys, ys.Pairwise (· ≤ ·) → (insI x ys).Pairwise (· ≤ ·)
  | [], _ => List.pairwise_singleton _ _
  | y :: ys, h => by
    obtain ⟨h1, h2⟩ := List.pairwise_cons.mp h
    unfold insI
    split
    · rename_i hxy
      exact List.pairwise_cons.mpr ⟨fun z hz => by
        rcases List.mem_cons.mp hz with rfl | hz
        · exact hxy
        · have := h1 z hz; omega, h⟩
    · rename_i hxy
      refine List.pairwise_cons.mpr ⟨fun z hz => ?_, insI_sorted x ys h2⟩
      rcases List.mem_cons.mp ((insI_perm x ys).mem_iff.mp hz) with rfl | hz
      · omega
      · exact h1 z hz
theorem isort_srt (ns : List Int) : isort ns = srtI ns := by
  have p : ∀ ns : List Int, (srtI ns).Perm ns := by
    intro ns
    induction ns with
    | nil => exact List.Perm.refl _
    | cons x xs ih => exact (insI_perm x _).trans (ih.cons x)
  have s : ∀ ns : List Int, (srtI ns).Pairwise (· ≤ ·) := by
    intro ns
    induction ns with
    | nil => exact List.Pairwise.nil
    | cons x xs ih => exact insI_sorted x _ ih
  exact (isort_of (p ns) (s ns)).symm

/-! ### one dict laid into another -/
section
variable {P : Program} {w : World} {A : Around} {E : Value → Shared → Prop} {s : Shared}
theorem putK_ok {d : Addr} {kvs : List (Key × Value)} {k : Key} {key v : Value} {Q : Unit → Shared → Prop} (hkey : (mixKind P w).is k key = true) (hm : s.heap.DictOf (mixKind P w) d kvs)
    (hQ : ∀ h', h'.DictOf (mixKind P w) d (stored kvs k v) → Heap.SameBut d s.heap h' → Q () { s with heap := h' }) (hsz : kvs.length ≤ sizeLine) :
    wpAny (model P w) A (dictPut d ((mixKind P w).hash k) key v) Q E s := by
  obtain ⟨o, es, ep, ho, hc, hd, hk, hp, hn⟩ := hm
  have hes : es.size ≤ sizeLine := by
    have e1 := hp.length
    have e2 : es.toList.length = es.size := by simp
    omega
  unfold dictPut
  refine wpAny_bind (wpAny_dictFind_of hkey ho hd hk ?_)
  have hidx : (es.findIdx? fun e => (mixKind P w).is k e.key) = kvs.findIdx? fun kv => decide (kv.1 = k) := by
    rw [← hp.findIdx k]; obtain ⟨l⟩ := es; simp
  cases hi : es.findIdx? fun e => (mixKind P w).is k e.key with
  | some i =>
    refine wpAny_updateDict ho hd (hQ _ ⟨_, _, ep, Heap.get?_update_self _ ho (Obj.isFreed_of_dict (Obj.data_mapDict hd _)), hc.mapDict _, Obj.data_mapDict hd _, hk.modify _ _, ?_, ?_⟩ (Heap.SameBut.update ..))
    · rw [stored, if_pos (any_of_findIdx_some (hidx ▸ hi))]
      have hl : (es.toList.findIdx? fun e => (mixKind P w).is k e.key) = some i := by rw [← hi]; obtain ⟨l⟩ := es; simp
      have := hp.modify hn hl v
      obtain ⟨l⟩ := es
      simpa using this
    · rw [stored, if_pos (any_of_findIdx_some (hidx ▸ hi)), keys_map_store]; exact hn
  | none =>
    have hnot : k ∉ kvs.map (·.1) := not_mem_of_findIdx_none (hidx ▸ hi)
    have hany : ¬ (kvs.any fun kv => decide (kv.1 = k)) = true := by
      rw [List.any_eq_true]; rintro ⟨kv, hkv, he⟩
      exact hnot (List.mem_map.mpr ⟨kv, hkv, of_decide_eq_true he⟩)
    refine wpAny_updateDictKeys (hz := hes) ho hd (hQ _ ⟨_, _, ep + 1, Heap.get?_update_self _ ho (Obj.isFreed_of_dict (Obj.data_mapDictKeys hd _)), hc.mapDictKeys _, Obj.data_mapDictKeys hd _, hk.push hkey _, ?_, ?_⟩ (Heap.SameBut.update ..))
    · rw [stored, if_neg hany]
      have := hp.append hkey ((mixKind P w).hash k) v
      obtain ⟨l⟩ := es
      simpa using this
    · rw [stored, if_neg hany, List.map_append, List.nodup_append]
      refine ⟨hn, by simp, ?_⟩
      intro a ha b hb
      simp only [List.map_cons, List.map_nil, List.mem_singleton] at hb
      subst hb
      exact fun e => hnot (e ▸ ha)
theorem merge_ok {d o : Addr} {kvs more : List (Key × Value)} {Q : Unit → Shared → Prop} (hdo : d ≠ o) (hoS : (o == sysModules) = false)
    (hd : s.heap.DictOf (mixKind P w) d kvs) (ho : s.heap.DictOf (mixKind P w) o more)
    (hQ : ∀ h', h'.DictOf (mixKind P w) d (merged kvs more) → Heap.SameBut d s.heap h' → Q () { s with heap := h' }) (hsz : kvs.length + more.length ≤ sizeLine) :
    wpAny (model P w) A (mergeMapping d (.ref o) false) Q E s := by
  obtain ⟨od, esd, epd, hod, hcd, hdd, hkd, hpd, hnd⟩ := id hd
  obtain ⟨oo, eso, epo, hoo, hco, hdo', hko, hpo, hno⟩ := id ho
  have hlen : more.length = eso.size := by rw [← hpo.length]; simp
  have hT : s.TypeIs (.ref o) "dict" := ⟨oo, hoo, hco.1⟩
  unfold mergeMapping
  refine wpAny_bind (wpAny_isInstance hT PySem.isSubtype_dict_dict ?_)
  dsimp only
  rw [if_pos rfl]
  refine wpAny_bind (wpAny_specialOf hT PySem.F.slot_dict_iter.lookup (wpAny_bind (wpAny_pure ?_)))
  rw [show (some (Value.builtin "dict.__iter__") == some (Value.builtin "dict.__iter__")) = true from beq_self_eq_true _]
  dsimp only
  rw [if_neg (by rw [hoS]; exact Bool.false_ne_true)]
  have loop : wpAny (model P w) A (do
      let l ← dictEntries o
      let epoch ← dictEpoch o
      forIn (List.range l.size) PUnit.unit fun i (_ : PUnit) => (do
          let l' ← dictEntries o
          match l'[i]? with
            | some e => do
              holding [e.key, e.val] (dictPut d e.hash e.key e.val)
              let ep' ← dictEpoch o
              if (ep' != epoch) = true then do
                  (unsupported "dict.changed-during-merge" : Sem PUnit)
                  pure (ForInStep.yield PUnit.unit)
                else pure (ForInStep.yield PUnit.unit)
            | _ => do
              (unsupported "dict.changed-during-merge" : Sem PUnit)
              pure (ForInStep.yield PUnit.unit) : Sem (ForInStep PUnit))
      pure ()) Q E s := by
    refine wpAny_bind (wpAny_dictEntries hoo hdo' ?_)
    refine wpAny_bind (wpAny_dictEpoch hoo hdo' ?_)
    refine wpAny_bind ?_
    rw [List.range_eq_range']
    refine wpAny_forIn_list _
      (fun rest _ s' => ∃ h' i, s' = { s with heap := h' } ∧ rest = List.range' i (eso.size - i) ∧ i ≤ eso.size ∧ h'.DictOf (mixKind P w) d (merged kvs (more.take i)) ∧ h'.get? o = some oo ∧ Heap.SameBut d s.heap h')
      _ ?_ ?_ _ _ ⟨s.heap, 0, rfl, rfl, Nat.zero_le _, hd, hoo, Heap.SameBut.refl _ _⟩
    · rintro x rest b s' ⟨h', i, rfl, hr, hi, hd', hoo', hs'⟩
      have hlt : i < eso.size := by
        rcases Nat.lt_or_ge i eso.size with h | h
        · exact h
        · rw [Nat.sub_eq_zero_of_le h] at hr; cases hr
      have hs1 : eso.size - i = (eso.size - (i + 1)) + 1 := by omega
      rw [hs1, List.range'_succ] at hr
      obtain ⟨rfl, hrest⟩ := List.cons.inj hr
      refine wpAny_bind (wpAny_dictEntries hoo' hdo' ?_)
      rw [Array.getElem?_eq_getElem hlt]
      obtain ⟨⟨k, v⟩, hkv⟩ : ∃ kv, more[x]? = some kv := ⟨more[x]'(by rw [hlen]; exact hlt), List.getElem?_eq_getElem _⟩
      obtain ⟨hkey, hval⟩ := hpo.get? (e := eso[x]) (by simp [hlt]) hkv
      obtain ⟨k', hkey', hhash⟩ := hko eso[x] (Array.getElem_mem hlt)
      obtain rfl : k' = k := (mixKind P w).inj _ _ _ hkey' hkey
      show wpAny _ _ (holding [eso[x].key, eso[x].val] (dictPut d eso[x].hash eso[x].key eso[x].val) >>= _) _ _ _
      rw [hhash, hval]
      have hmx : (merged kvs (more.take x)).length ≤ sizeLine := by
        have e1 := merged_length_le kvs (more.take x)
        have e2 : (more.take x).length ≤ more.length := by rw [List.length_take]; omega
        omega
      refine wpAny_bind (wpAny_holding (putK_ok hkey hd' (fun h'' hd'' hs'' => ?_) hmx))
      have hoo'' : h''.get? o = some oo := (hs''.2 o (Ne.symm hdo)).trans hoo'
      refine wpAny_bind (wpAny_dictEpoch hoo'' hdo' ?_)
      rw [if_neg (by simp)]
      exact wpAny_pure ⟨h'', x + 1, rfl, hrest, hlt, by rw [merged_take_succ kvs more x (k', v) hkv]; exact hd'', hoo'', hs'.trans hs''⟩
    · rintro b s' ⟨h', i, rfl, hr, hi, hd', hoo', hs'⟩
      have hin : i = eso.size := by
        rcases Nat.lt_or_ge i eso.size with h | h
        · have e : eso.size - i = (eso.size - (i + 1)) + 1 := by omega
          rw [e, List.range'_succ] at hr
          cases hr
        · exact Nat.le_antisymm hi h
      refine wpAny_pure (hQ h' ?_ hs')
      rw [hin, ← hlen, List.take_length] at hd'
      exact hd'
  refine wpAny_bind (wpAny_dictEntries hod hdd ?_)
  split
  · refine wpAny_bind (wpAny_dictEntries hoo hdo' ?_)
    refine wpAny_bind (wpAny_forIn_array' _ (fun rest _ s' => s' = s ∧ ∀ e ∈ rest, ∃ k, (mixKind P w).is k e.key = true) _ ?_ ?_ _ _ ⟨rfl, fun e he => let ⟨k, h1, _⟩ := hko e (by simpa using he); ⟨k, h1⟩⟩)
    · rintro x rest b s' ⟨rfl, hk⟩
      obtain ⟨k, hx⟩ := hk x List.mem_cons_self
      have hrest := fun e he => hk e (List.mem_cons_of_mem _ he)
      rcases keyIs_shape (show keyIs k x.key = true from hx) with ⟨i, t, _, ek⟩ | ⟨z, t, _, ek⟩
      · rw [ek]; exact wpAny_pure ⟨rfl, hrest⟩
      · rw [ek]; exact wpAny_pure ⟨rfl, hrest⟩
    · rintro b s' ⟨rfl, _⟩
      exact loop
  · exact loop
end
/-! ### an object that is being made, held by the others -/
theorem Sta.tbegin {K : PySem.W.Frag} {F0 T F G H : Hp} {r : Env2} {σ : L2.St} (S : Sta K F0 T F G H r σ) {L : Addr} (hL : H L = none) (o : HO) (h0 : F0 L = none) : Sta K F0 (upd T L o) F G (upd H L o) r σ := by
  obtain ⟨f1, f2, f3⟩ := S.bas.freshF hL
  have Sb := S.newH (o := o) hL
  refine ⟨⟨Sb.bas.ff, fun q u hq => ?_, Sb.bas.fh, Sb.bas.gh, Sb.bas.fg, fun q u hq => ?_, fun q u hq => ?_⟩, Sb.len, fun i s hs => ?_, Sb.ap⟩
  · rw [upd_ne (ne_of_none hq f1)]; exact Sb.bas.ft q u hq
  · rw [upd_ne (ne_of_none hq f2)]; exact Sb.bas.gt q u hq
  · by_cases hq' : q = L
    · subst hq'; rw [upd_same] at hq ⊢; exact hq
    · rw [upd_ne hq'] at hq; exact Sb.bas.tk q u hq
  · have hh := Sb.sl i s hs
    cases s with
    | no => trivial
    | sh d => exact hh
    | own d =>
      obtain ⟨p, k1, k2, k3, k4, k5⟩ := hh
      have hp : p ≠ L := fun z => by subst z; exact S.freshR hL i d hs k1
      exact ⟨p, k1, k2, k3, k4, by rw [upd_ne hp]; exact k5⟩
theorem Sta.tF {K : PySem.W.Frag} {F0 T F G H : Hp} {r : Env2} {σ : L2.St} {L : Addr} {o : HO} (S : Sta K F0 (upd T L o) F G H r σ) (h0 : F0 L = none) : F L = none ∧ G L = none ∧ H L = some o := by
  refine ⟨?_, ?_, S.bas.tk L o upd_same⟩
  · cases e : F L with
    | none => rfl
    | some u =>
      rcases S.bas.ft L u e with z | z
      · rw [h0] at z; cases z
      · rw [upd_same] at z; cases z
  · cases e : G L with
    | none => rfl
    | some u => have z := S.bas.gt L u e; rw [upd_same] at z; cases z
theorem Sta.tput {K : PySem.W.Frag} {F0 T F G H : Hp} {r : Env2} {σ : L2.St} {L : Addr} {o : HO} (S : Sta K F0 (upd T L o) F G H r σ) (h0 : F0 L = none) (o' : HO) : Sta K F0 (upd T L o') F G (upd H L o') r σ := by
  obtain ⟨fL, gL, _⟩ := S.tF h0
  refine ⟨⟨S.bas.ff, fun q u hq => ?_, fun q u hq => ?_, fun q u hq => ?_, S.bas.fg, fun q u hq => ?_, fun q u hq => ?_⟩, S.len, fun i s hs => ?_, S.ap⟩
  · have n := ne_of_none hq fL
    have := S.bas.ft q u hq
    rw [upd_ne n] at this ⊢
    exact this
  · rw [upd_ne (ne_of_none hq fL)]; exact S.bas.fh q u hq
  · rw [upd_ne (ne_of_none hq gL)]; exact S.bas.gh q u hq
  · have n := ne_of_none hq gL
    have := S.bas.gt q u hq
    rw [upd_ne n] at this ⊢
    exact this
  · by_cases hqL : q = L
    · subst hqL; rw [upd_same] at hq ⊢; exact hq
    · rw [upd_ne hqL] at hq ⊢
      exact S.bas.tk q u (by rw [upd_ne hqL]; exact hq)
  · have hh := S.sl i s hs
    cases s with
    | no => trivial
    | sh d => exact hh
    | own d =>
      obtain ⟨p, k1, k3, k4, k5, k6⟩ := hh
      have hpL : p ≠ L := fun zz => by subst zz; rw [upd_same] at k6; cases k6
      rw [upd_ne hpL] at k6
      exact ⟨p, k1, k3.mono (Ex.refl _) (fun u hu => by rw [upd_ne hpL]; exact hu), k4, k5, by rw [upd_ne hpL]; exact k6⟩
theorem Sta.tend {K : PySem.W.Frag} {F0 T F G H : Hp} {r : Env2} {σ : L2.St} {L : Addr} {o : HO} (S : Sta K F0 (upd T L o) F G H r σ) (h0 : F0 L = none) (hT : T L = none) : Sta K F0 T F G H r σ ∧ ∀ (i : Nat) (e : D), r[i]? = some (.own e) → σ[i]? ≠ some (some (.ref L)) := by
  have tsub : ∀ q u, T q = some u → upd T L o q = some u := fun q u hq => by rw [upd_ne (ne_of_none hq hT)]; exact hq
  have tdown : ∀ q, upd T L o q = none → T q = none := fun q hq => by
    cases hf : T q with
    | none => rfl
    | some u => rw [tsub q u hf] at hq; cases hq
  refine ⟨⟨⟨S.bas.ff, fun q u hq => ?_, S.bas.fh, S.bas.gh, S.bas.fg, fun q u hq => tdown q (S.bas.gt q u hq), fun q u hq => S.bas.tk q u (tsub q u hq)⟩, S.len, fun i s hs => ?_, S.ap⟩, fun i e he z => ?_⟩
  · exact (S.bas.ft q u hq).imp id (tdown q)
  · have hh := S.sl i s hs
    cases s with
    | no => trivial
    | sh d => exact hh
    | own d => obtain ⟨p, k1, k2, k3, k4, k5⟩ := hh; exact ⟨p, k1, k2, k3, k4, tdown p k5⟩
  · obtain ⟨p, k1, _, _, _, k5⟩ := S.ownS he
    rw [z] at k1; cases k1
    rw [upd_same] at k5; cases k5
/-! ### {**a, **b} -/
section
variable {X : Cx} {a b : Expr} {ta tb : TE} {pos : Pos} {r : Env2} {G : Hp}
theorem d_merge {pins : List (Addr × Obj)} {σ : L2.St} {H : Hp} {s : Shared} {A : Around} {E : Value → Shared → Prop} {D p : Addr} {acc kvs : List (Key × V)} {Q : Unit → Shared → Prop} (I : Inv X pins σ H s) (hD : H D = some (.dK acc)) (hp : Rd H p (.dK kvs)) (hne : p ≠ D) (hsz : acc.length + kvs.length ≤ sizeLine)
    (q : ∀ s', Inv X pins σ (upd H D (.dK (mergeK acc kvs))) s' → Q () s') : wpAny (model X.prog X.w) A (mergeMapping D (.ref p) false) Q E s := by
  obtain ⟨z, lo, vs, rel, dd⟩ := dk_of I.hok hD
  obtain ⟨z', lo', ws, rel', dd'⟩ := dk_rd I.hok hp
  have l1 := rel.length
  have l2 := rel'.length
  refine merge_ok hne.symm lo' dd dd' (fun h' dm hs => q _ ?_) (by omega)
  have he : ∃ o, h'.get? D = some o := let ⟨o, _, _, ho, _⟩ := dm; ⟨o, ho⟩
  exact d_write I (by rw [hD]; exact True.intro) hs he (dk_new (by have := length_mergeK kvs acc; omega) lo (rel'.merge rel) dm)
def tMrg (ta tb : TE) : TE := fun σ H Q => ∀ D, H D = none → ta σ (upd H D (.dK [])) fun x H1 => ∃ p kvs, x = .ref p ∧ Rd H1 p (.dK kvs) ∧ p ≠ D ∧ H1 D = some (.dK []) ∧ kvs.length ≤ LIM ∧
  tb σ (upd H1 D (.dK (mergeK [] kvs))) fun y H2 => ∃ q kws, y = .ref q ∧ Rd H2 q (.dK kws) ∧ q ≠ D ∧ H2 D = some (.dK (mergeK [] kvs)) ∧ kws.length ≤ LIM ∧ Q (.ref D) (upd H2 D (.dK (mergeK (mergeK [] kvs) kws)))
theorem pe_mrg (ha : PE X a ta) (hb : PE X b tb) : PE X (.Dict [none, none] [a, b] pos) (tMrg ta tb) := by
  refine ⟨fun pins s σ H Q I h => ?_⟩
  have big : ∀ {n m : Nat}, n ≤ LIM → m ≤ LIM → n + m ≤ sizeLine := fun h1 h2 => by
    have := sizeLine_eq
    unfold LIM at h1 h2
    omega
  rw [arm_eval_Dict]
  refine wpAny_bind (wpAny_standAt ?_)
  show wpAny _ _ (dictDisplay [(none, do let x ← eval a X.env; standAt pos; pure x), (none, do let x ← eval b X.env; standAt pos; pure x)]) _ _ _
  unfold dictDisplay
  simp only [List.forIn_cons, List.forIn_nil, List.isEmpty_nil, if_true, bind_assoc, pure_bind]
  refine wpAny_bind (wpAny_alloc ?_)
  have I0 : Inv X pins σ (upd H s.heap.objs.size (.dK [])) { s with heap := s.heap.push { cls := .type "dict", data := .dict #[] } } :=
    I.laid (a := s.heap.objs.size) (o := .dK []) (t' := s.toks) (fun _ _ q => Heap.get?_push_of_some _ q) (Nat.le_refl _) (dk_empty s.heap I.big)
  have h0 := h _ (I.hok.fresh (Nat.le_refl _))
  generalize s.heap.objs.size = D at I0 h0 ⊢
  refine wpAny_bind (wpAny_holding (wpAny_bind (thn (ha.run pins _ σ _ _ I0 h0) fun u s1 ⟨x, H1, I1, rx, p, kvs, ex, hp, hpD, hD1, hl1, h1⟩ => wpAny_bind (wpAny_standAt (wpAny_pure ?_)))))
  subst ex
  obtain rfl : u = Value.ref p := rx
  refine wpAny_bind (wpAny_onRaise (wpAny_tryCatch (wpAny_onRaise (wpAny_holding (d_merge I1 hD1 hp hpD (big (Nat.zero_le _) hl1) fun s2 I2 => ?_)))))
  refine wpAny_bind (wpAny_holding (wpAny_bind (thn (hb.run pins _ σ _ _ I2 h1) fun u2 s3 ⟨y, H3, I3, ry, p2, kws, ey, hp2, hpD2, hD3, hl3, h3⟩ => wpAny_bind (wpAny_standAt (wpAny_pure ?_)))))
  subst ey
  obtain rfl : u2 = Value.ref p2 := ry
  have hm := length_mergeK kvs ([] : List (Key × V))
  refine wpAny_bind (wpAny_onRaise (wpAny_tryCatch (wpAny_onRaise (wpAny_holding (d_merge I3 hD3 hp2 hpD2 (big (by rw [List.length_nil] at hm; omega) hl3) fun s4 I4 => ?_)))))
  exact wpAny_pure ⟨.ref D, _, I4, rfl, h3⟩
theorem we_mrg {Q : Res → Env2 → Hp → Prop} (h : WE X a r G fun x r1 G1 => ∃ acc r2, fz r1 x = some (dicD acc, r2) ∧ acc.length ≤ LIM ∧ WE X b r2 G1 fun y r3 G3 => ∃ bcc r4, fz r3 y = some (dicD bcc, r4) ∧ bcc.length ≤ LIM ∧ Q (.fr (dicD (bcc.foldl (fun acc kv => putD acc kv.1 kv.2) (acc.foldl (fun acc kv => putD acc kv.1 kv.2) [])))) r4 G3) :
    WE X (.Dict [none, none] [a, b] pos) r G Q := fun F0 T F H σ S => Run.of (pe_mrg peR peR) fun L hD => by
  obtain ⟨f1, f2, f3⟩ := S.bas.freshF hD
  have f0 : F0 L = none := by
    cases e : F0 L with
    | none => rfl
    | some u => rw [S.bas.ff L u e] at f1; cases f1
  have go : ∀ {F1 : Hp} {v : V} {acc : List (Key × D)}, F1 L = none → Rep X.K F1 (dicD acc) v → ∃ p us, v = .ref p ∧ Rd F1 p (.dK us) ∧ p ≠ L ∧ DRep X.K F1 acc us := fun {F1 v acc} hF rp => by
    obtain ⟨p, vs, e1, e2, e3, e4⟩ := rp
    refine ⟨p, _, e1, e2, fun z => ?_, ?_⟩
    · subst z
      rcases e2 with e2 | ⟨_, e2⟩
      · rw [hF] at e2; cases e2
      · rw [hF] at e2; cases e2
    · have := DRep.of e3 e4
      rw [zip_maps] at this
      exact this
  refine (h F0 _ F _ σ (S.tbegin hD (.dK []) f0)).mono fun v H1 ⟨x, r1, G1, F1, e1, S1, k1, acc, r2, q1, hl1, q2⟩ => ?_
  obtain ⟨Fa, ea, Sa, rp⟩ := S1.fz k1 q1
  obtain ⟨t1, t2, t3⟩ := Sa.tF f0
  obtain ⟨p, us, rfl, z1, z2, z3⟩ := go t1 rp
  refine ⟨p, us, rfl, Sa.bas.fh.rd z1, z2, t3, by rw [z3.length]; exact hl1, ?_⟩
  refine (q2 F0 _ Fa _ σ (Sa.tput f0 _)).mono fun v3 H3 ⟨y, r3, G3, F3, e3, S3, k3, bcc, r4, q3, hl3, q4⟩ => ?_
  obtain ⟨Fb, eb, Sb, rp3⟩ := S3.fz k3 q3
  obtain ⟨u1, u2, u3⟩ := Sb.tF f0
  obtain ⟨p2, ws, rfl, y1, y2, y3⟩ := go u1 rp3
  refine ⟨p2, ws, rfl, Sb.bas.fh.rd y1, y2, u3, by rw [y3.length]; exact hl3, ?_⟩
  obtain ⟨Sc, ow⟩ := (Sb.tput f0 (.dK (mergeK (mergeK [] us) ws))).tend f0 f3
  exact ⟨.fr (dicD _), r4, G3, Fb, ((e1.trans ea).trans e3).trans eb, Sc, ⟨L, rfl, own_dicD (DRep.fold (DRep.fold (acc := []) (ws := []) rfl (z3.mono (e3.trans eb))) y3) upd_same, u1, u2, f3, ow⟩, q4⟩
end
section
variable {X : Cx} {a b tg : Expr} {r : Env2} {G : Hp} {pos p0 : Pos} {D0 : EndsD}
theorem ws_setLcR2 {scope : Scope} {elt : Expr} {ifs : List Expr} (own : List (Str × Nat)) (i : Nat) {y : Str} {py spos rp : Pos} (hc : X.calm = true) (hN : X.N.Nodup) (hy : X.N[i]? = some y) (hyl : X.env.scope.names.lookup y = some .local)
    (hsw : swapsWith (.ListComp elt [⟨tg, .Call (.Name "range" p0) [a, b] [] rp, ifs, 0⟩] scope pos) (some (.Name y py)) spos.line X.env = pure true) (ok : BlkOk X.N X.env.scope scope own) (hg : Gl X "range") (hm : X.mg "range" = none)
    (h : WE X a r G fun x r1 G1 => WE X b r1 G1 fun y r2 G2 => ∃ lo n, vw r2 x = some (.int lo) ∧ vw r2 y = some (.int n) ∧ ((-(2 ^ 62) ≤ lo ∧ lo < 2 ^ 62) ∧ -(2 ^ 62) ≤ n ∧ n < 2 ^ 62) ∧ ∃ I : Nat → List D → Env2 → Hp → Prop, I 0 [] (wipeD r2 (own.map (·.2))) G2 ∧ (∀ (k : Nat) (acc : List D) (r3 : Env2) (G3 : Hp), lo + (k : Int) < n → I k acc r3 G3 → LcTurn X scope tg elt ifs (own.map (·.2)) (.int (lo + (k : Nat))) acc r3 G3 (I (k + 1))) ∧
      ∀ acc r3 G3, I (n - lo).toNat acc r3 G3 → i < r3.length ∧ D0.nx (r3.set i (.own (.lst acc))) G3) (hst : starEach [a, b] X.env = [(false, eval a X.env), (false, eval b X.env)] := by rfl) (hst2 : starEach [b] X.env = [(false, eval b X.env)] := by rfl) (hs : ∀ x, foldedSetIterable (.Call (.Name "range" p0) [a, b] [] rp) X.env x = pure x := by intro _; rfl) : WS X (.Assign [.Name y py] (.ListComp elt [⟨tg, .Call (.Name "range" p0) [a, b] [] rp, ifs, 0⟩] scope pos) spos) r G D0 := fun F0 T F H σ S =>
  RunS.of (ps_setLc hc hN hy hyl hsw (pi_range2 hg hm (pa_cons peR (pa_cons peR pa_nil (by rw [hst2]; rfl)) (by rw [hst, hst2])) hst hst2) ok blkG_ok blkT_ok blkE_ok hs) (lc_store (lcR2 S (h.mono fun x r1 G1 h1 => h1.mono fun y r2 G2 ⟨lo, n, k0, k1, kb, I, k2, k3, k4⟩ => ⟨lo, n, k0, k1, kb, I, k2, k3, fun acc r3 G3 q => ⟨(k4 acc r3 G3 q).1, _, rfl, (k4 acc r3 G3 q).2⟩⟩)) (lc_mono fun R R' k q => Run.mono q fun v H z => Run.mono z fun v2 H2 ⟨lo, n, z1, z2, z3⟩ => ⟨lo, n, z1, z2, k _ _ z3⟩))
end

def topS (i : Nat) : Stmt := PySem.Challenge.pw_rulerbits_k76_whole_sides_from_both_side.main.body.getD i (.Pass ⟨0, 0, 0, 0⟩)
abbrev s_is_number : Stmt := topS 10
theorem sc_is_number : FnScope ["value", "lowest", "highest"] ["value", "lowest", "highest"] (defScope s_is_number) := ⟨rfl, rfl, rfl, by decide +kernel, rfl, by decide +kernel, by decide +kernel⟩
-- slots: 0 value, 1 lowest, 2 highest
abbrev s_spread_of : Stmt := topS 11
theorem sc_spread_of : FnScope ["marks", "found", "place", "mark", "other"] ["marks"] (defScope s_spread_of) := ⟨rfl, rfl, rfl, by decide +kernel, rfl, by decide +kernel, by decide +kernel⟩
-- slots: 0 marks, 1 found, 2 place, 3 mark, 4 other
abbrev s_mirrored : Stmt := topS 12
theorem sc_mirrored : FnScope ["marks", "mark"] ["marks"] (defScope s_mirrored) := ⟨rfl, rfl, rfl, by decide +kernel, rfl, by decide +kernel, by decide +kernel⟩
-- slots: 0 marks, 1 mark
abbrev s_Ruler_init : Stmt := inClass (topS 13) 1
theorem sc_Ruler_init : FnScope ["self", "marks", "error", "index", "mark", "lowest"] ["self", "marks", "error"] (defScope s_Ruler_init) := ⟨rfl, rfl, rfl, by decide +kernel, rfl, by decide +kernel, by decide +kernel⟩
-- slots: 0 self, 1 marks, 2 error, 3 index, 4 mark, 5 lowest
abbrev s_Ruler_marks : Stmt := inClass (topS 13) 2
theorem sc_Ruler_marks : FnScope ["self"] ["self"] (defScope s_Ruler_marks) := ⟨rfl, rfl, rfl, by decide +kernel, rfl, by decide +kernel, by decide +kernel⟩
-- slots: 0 self
abbrev s_Ruler_error : Stmt := inClass (topS 13) 3
theorem sc_Ruler_error : FnScope ["self"] ["self"] (defScope s_Ruler_error) := ⟨rfl, rfl, rfl, by decide +kernel, rfl, by decide +kernel, by decide +kernel⟩
-- slots: 0 self
abbrev s_Ruler_length : Stmt := inClass (topS 13) 4
theorem sc_Ruler_length : FnScope ["self"] ["self"] (defScope s_Ruler_length) := ⟨rfl, rfl, rfl, by decide +kernel, rfl, by decide +kernel, by decide +kernel⟩
-- slots: 0 self
abbrev s_Ruler_spans : Stmt := inClass (topS 13) 6
theorem sc_Ruler_spans : FnScope ["self", "span"] ["self"] (defScope s_Ruler_spans) := ⟨rfl, rfl, rfl, by decide +kernel, rfl, by decide +kernel, by decide +kernel⟩
-- slots: 0 self, 1 span
abbrev s_Ruler_len : Stmt := inClass (topS 13) 7
theorem sc_Ruler_len : FnScope ["self"] ["self"] (defScope s_Ruler_len) := ⟨rfl, rfl, rfl, by decide +kernel, rfl, by decide +kernel, by decide +kernel⟩
-- slots: 0 self
abbrev s_Ruler_eq : Stmt := inClass (topS 13) 8
theorem sc_Ruler_eq : FnScope ["self", "other"] ["self", "other"] (defScope s_Ruler_eq) := ⟨rfl, rfl, rfl, by decide +kernel, rfl, by decide +kernel, by decide +kernel⟩
-- slots: 0 self, 1 other
abbrev s_Ruler_turned : Stmt := inClass (topS 13) 9
theorem sc_Ruler_turned : FnScope ["self"] ["self"] (defScope s_Ruler_turned) := ⟨rfl, rfl, rfl, by decide +kernel, rfl, by decide +kernel, by decide +kernel⟩
-- slots: 0 self
abbrev s_spans_at : Stmt := topS 16
theorem sc_spans_at : FnScope ["one", "other", "shift", "marks", "span", "mark"] ["one", "other", "shift"] (defScope s_spans_at) := ⟨rfl, rfl, rfl, by decide +kernel, rfl, by decide +kernel, by decide +kernel⟩
-- slots: 0 one, 1 other, 2 shift, 3 marks, 4 span, 5 mark
abbrev s_joint_spans : Stmt := topS 17
theorem sc_joint_spans : FnScope ["one", "other", "shift"] ["one", "other", "shift"] (defScope s_joint_spans) := ⟨rfl, rfl, rfl, by decide +kernel, rfl, by decide +kernel, by decide +kernel⟩
-- slots: 0 one, 1 other, 2 shift
abbrev s_best_shift : Stmt := topS 18
theorem sc_best_shift : FnScope ["one", "other", "lowest", "highest", "counts", "shift"] ["one", "other", "lowest", "highest"] (defScope s_best_shift) := ⟨rfl, rfl, rfl, by decide +kernel, rfl, by decide +kernel, by decide +kernel⟩
-- slots: 0 one, 1 other, 2 lowest, 3 highest, 4 counts, 5 shift
abbrev s_law_begun : Stmt := topS 20
theorem sc_law_begun : FnScope ["_law_script", "_law_stirred", "_law_cell"] ["_law_script"] (defScope s_law_begun) := ⟨rfl, rfl, rfl, by decide +kernel, rfl, by decide +kernel, by decide +kernel⟩
-- slots: 0 _law_script, 1 _law_stirred, 2 _law_cell
abbrev s_law_take : Stmt := topS 21
theorem sc_law_take : FnScope ["_law_box", "_law_many", "_law_figure"] ["_law_box", "_law_many"] (defScope s_law_take) := ⟨rfl, rfl, rfl, by decide +kernel, rfl, by decide +kernel, by decide +kernel⟩
-- slots: 0 _law_box, 1 _law_many, 2 _law_figure
abbrev s_law_marks : Stmt := topS 22
theorem sc_law_marks : FnScope ["_law_box", "_law_most", "_law_length", "_law_left", "_law_found", "_law_turn"] ["_law_box", "_law_most", "_law_length"] (defScope s_law_marks) := ⟨rfl, rfl, rfl, by decide +kernel, rfl, by decide +kernel, by decide +kernel⟩
-- slots: 0 _law_box, 1 _law_most, 2 _law_length, 3 _law_left, 4 _law_found, 5 _law_turn
abbrev s_law_ruler : Stmt := topS 23
theorem sc_law_ruler : FnScope ["_law_box", "_law_most", "_law_length"] ["_law_box", "_law_most", "_law_length"] (defScope s_law_ruler) := ⟨rfl, rfl, rfl, by decide +kernel, rfl, by decide +kernel, by decide +kernel⟩
-- slots: 0 _law_box, 1 _law_most, 2 _law_length
abbrev s_law_different : Stmt := topS 24
theorem sc_law_different : FnScope ["_law_values", "_law_value"] ["_law_values"] (defScope s_law_different) := ⟨rfl, rfl, rfl, by decide +kernel, rfl, by decide +kernel, by decide +kernel⟩
-- slots: 0 _law_values, 1 _law_value
abbrev s_law : Stmt := topS 25
theorem sc_law : FnScope ["_law_script", "_law_box", "_law_one", "_law_other", "_law_shift", "_law_spans", "_law_turned", "_law_cross", "_law_mark", "_law_lowest", "_law_highest", "_law_best", "_law_middle", "_law_parts", "_law_counts", "_law_alone", "_law_span", "_law_more"] ["_law_script"] (defScope s_law) := ⟨rfl, rfl, rfl, by decide +kernel, rfl, by decide +kernel, by decide +kernel⟩
-- slots: 0 _law_script, 1 _law_box, 2 _law_one, 3 _law_other, 4 _law_shift, 5 _law_spans, 6 _law_turned, 7 _law_cross, 8 _law_mark, 9 _law_lowest, 10 _law_highest, 11 _law_best, 12 _law_middle, 13 _law_parts, 14 _law_counts, 15 _law_alone, 16 _law_span, 17 _law_more
local macro_rules | `(tactic| walk_at "vis") => `(tactic| first | exact .inl rfl | exact .inr (.inl rfl) | exact .inr (.inr rfl) | exact .inr rfl)

section
variable {P : Program} {w : World} {K : PySem.W.Frag} {mg : Str → Option Value} {base : Heap}
theorem ok_law_begun {f : Addr} {fd : FuncData} {k : Nat} (F : Fun K "_law_begun" "_law_begun" s_law_begun f fd) (B : Bn mg) : FnOk P w K mg base CX0 (k + 1) f fd ["_law_script"] (spD K (begunF K)) := by
  refine def_ok F sc_law_begun (fun ds G post h => ?_) (fun cdv A outer s H E hr ds G post h => ?_)
  · obtain ⟨a, ns, rfl, _⟩ := h; rfl
  obtain ⟨a, ns, rfl, hS, hq0⟩ := h
  have hq : ∀ b g, g ≠ b → G b = none → G g = none → post (.sh (.adr b)) (boxG G b g ns (begunM ns)) := fun b g h1 _ _ => hq0 b g _ ⟨_, _, rfl, h1, begunM_lt ns⟩
  have nd := sc_law_begun.nd
  refine wb_cons (ws_set 1 nd rfl (.inl rfl) ?_)
  refine we_int ?_
  refine ⟨lt_ rfl, _, rfl, ?_⟩
  refine wb_cons (ws_forS (is := [2]) PassesOwn.never rfl (g := a) (ns := ns) ?_)
  refine we_var 0 rfl (by walk_at "vis") rfl ?_
  refine ⟨rfl, fun k r G' => G' = G ∧ ∃ z, r = [.sh (.adr a), .sh (.int (stirM (ns.take k) 0)), z], ⟨rfl, .no, rfl⟩, fun k r3 G3 ⟨h1, _⟩ => by rw [h1]; exact hS, fun k n r3 G3 hk ⟨h1, z, h2⟩ => ?_, fun r3 G3 ⟨h1, z, h2⟩ => ?_⟩
  · subst h1 h2
    refine wg_name 2 nd rfl (.inl rfl) (by decide) (lt_ rfl) ?_
    refine wb_cons (ws_set 1 nd rfl (.inl rfl) ?_)
    refine we_bin ?_
    refine we_t1 (x := "int") (id := "int") rfl B.int bt_int ?_
    refine we_bin ?_
    refine we_bin ?_
    refine we_bin ?_
    refine we_var 1 rfl (by walk_at "vis") rfl ?_
    refine we_int ?_
    refine ⟨_, _, .inl rfl, .inl rfl, ?_⟩
    refine opw_mul (.inr ⟨by decide, by decide⟩) ?_
    refine we_bin ?_
    refine we_var 2 rfl (by walk_at "vis") rfl ?_
    refine we_int ?_
    refine ⟨_, _, .inl rfl, .inl rfl, ?_⟩
    refine opw_mul (.inr ⟨by decide, by decide⟩) ?_
    refine ⟨_, _, .inl rfl, .inl rfl, ?_⟩
    refine opw_add ?_
    refine we_int ?_
    refine ⟨_, _, .inl rfl, .inl rfl, ?_⟩
    refine opw_add ?_
    refine ⟨_, .inl rfl, ?_⟩
    refine c_int ?_
    refine we_int ?_
    refine ⟨_, _, .inl rfl, .inl rfl, ?_⟩
    refine opw_mod (by decide) ?_
    refine ⟨lt_ rfl, _, rfl, ?_⟩
    refine wb_nil ⟨rfl, .sh (.int n), ?_⟩
    rw [take_snoc hk, stirM_snoc]
    rfl
  · subst h1 h2
    rw [List.take_length]
    refine wb_cons (ws_ret ?_)
    refine we_box ?_
    refine we_listS (x := "list") rfl B.list bt_list ?_
    refine we_var 0 rfl (by walk_at "vis") rfl ?_
    refine ⟨a, ns, rfl, hS, ns, rfl, fun p hp => ?_⟩
    refine we_bin ?_
    refine we_var 1 rfl (by walk_at "vis") rfl ?_
    refine we_t1 (x := "int") (id := "int") rfl B.int bt_int ?_
    refine we_cmp (nomark _) ?_
    refine we_lenS (x := "len") rfl B.len bt_len ?_
    refine we_var 0 rfl (by walk_at "vis") rfl ?_
    refine ⟨a, ns, rfl, ?_, ?_⟩
    · exact (Ex.new hp).sqL hS
    refine we_int ?_
    refine ⟨_, _, .inl rfl, .inl rfl, ?_⟩
    refine opw_gt ?_
    refine ⟨_, .inl rfl, ?_⟩
    refine c_intB ?_
    refine ⟨_, _, .inl rfl, .inl rfl, ?_⟩
    refine opw_mul (.inr ?_) ?_
    · split <;> decide
    refine ⟨_, rfl, fun q hq2 => ⟨_, rfl, ?_⟩⟩
    have e : begunM ns = stirM ns 0 * (if decide (2 < ((ns.length : Nat) : Int)) = true then 1 else 0) := by
      unfold begunM
      congr 1
      by_cases h : 2 < ns.length
      · rw [if_pos h, if_pos (decide_eq_true (by omega))]
      · rw [if_neg h, if_neg (by simp; omega)]
    have hne : p ≠ q := fun z => by subst z; rw [upd_same] at hq2; cases hq2
    have := hq q p hne (by rw [upd_ne hne.symm] at hq2; exact hq2) hp
    rw [e] at this
    exact this

theorem ok_law_take {f : Addr} {fd : FuncData} {k : Nat} (F : Fun K "_law_take" "_law_take" s_law_take f fd) (B : Bn mg) : FnOk P w K mg base CX0 (k + 1) f fd ["_law_box", "_law_many"] (spD K takeF) := by
  refine def_ok F sc_law_take (fun ds G post h => ?_) (fun cdv A outer s H E hr ds G post h => ?_)
  · obtain ⟨G0, b, g, m, rfl, _⟩ := h; rfl
  obtain ⟨G0, b, g, m, rfl, ⟨ns, st, rfl, hne, hs0, hs1⟩, ⟨hm0, hm1⟩, hq0⟩ := h
  have hq : post (.sh (.int (takeM ns st m).1)) (boxG G0 b g (takeM ns st m).2.1 (takeM ns st m).2.2) := hq0 _ _ (takeM_lt hm0).1 (takeM_lt hm0).2 ⟨_, _, rfl, hne, takeM_st ⟨hs0, hs1⟩⟩
  have nd := sc_law_take.nd
  refine wb_cons (ws_if ?_)
  refine wt_cmp (nomark _) ?_
  refine we_ixG (fun _ _ => rfl) ?_
  refine we_var 0 rfl (by walk_at "vis") rfl ?_
  refine we_int ?_
  refine ⟨b, _, 0, _, rfl, rfl, boxG_b, rfl, rfl, ?_⟩
  refine we_lst (wa_nil ⟨by decide, ?_⟩)
  refine ⟨_, _, .inr ⟨g, _, rfl, boxG_g hne, flatR_ints ns, rfl⟩, .inl rfl, ?_⟩
  rw [vD_ints]
  refine opw_eqD (n := 1) hr.units (okD_ints ns) (okD_ints []) (by decide) ?_
  refine ⟨_, rfl, fun hd => ?_, fun hd => ?_⟩
  · have e0 : ns = [] := by
      have := (eqD_ints ns []).symm.trans hd
      simpa using this
    subst e0
    refine wb_cons (ws_setG ?_)
    refine we_bin ?_
    refine we_t1 (x := "int") (id := "int") rfl B.int bt_int ?_
    refine we_bin ?_
    refine we_ixG (fun _ _ => rfl) ?_
    refine we_var 0 rfl (by walk_at "vis") rfl ?_
    refine we_int ?_
    refine ⟨b, _, 1, _, rfl, rfl, boxG_b, rfl, rfl, ?_⟩
    refine we_int ?_
    refine ⟨_, _, .inl rfl, .inl rfl, ?_⟩
    refine opw_mul (.inr ⟨by decide, by decide⟩) ?_
    refine ⟨_, .inl rfl, ?_⟩
    refine c_int ?_
    refine we_int ?_
    refine ⟨_, _, .inl rfl, .inl rfl, ?_⟩
    refine opw_mod (by decide) ?_
    refine ⟨_, rfl, ?_⟩
    refine we_var 0 rfl (by walk_at "vis") rfl ?_
    refine ⟨b, rfl, ?_⟩
    refine we_int ?_
    refine ⟨1, _, 1, rfl, boxG_b, rfl, ?_⟩
    rw [show ([V.ref g, V.int st].set 1 (V.int (st * 48271 % 2147483647))) = [V.ref g, V.int (st * 48271 % 2147483647)] from rfl, boxG_setB]
    refine wb_cons (ws_ret ?_)
    refine we_bin ?_
    refine we_t1 (x := "int") (id := "int") rfl B.int bt_int ?_
    refine we_bin ?_
    refine we_ixG (fun _ _ => rfl) ?_
    refine we_var 0 rfl (by walk_at "vis") rfl ?_
    refine we_int ?_
    refine ⟨b, _, 1, _, rfl, rfl, boxG_b, rfl, rfl, ?_⟩
    refine we_int ?_
    refine ⟨_, _, .inl rfl, .inl rfl, ?_⟩
    refine opw_fdiv ⟨by decide, by decide⟩ ?_
    refine ⟨_, .inl rfl, ?_⟩
    refine c_int ?_
    refine we_var 1 rfl (by walk_at "vis") rfl ?_
    refine ⟨_, _, .inl rfl, .inl rfl, ?_⟩
    refine opw_mod hm0 ?_
    exact ⟨_, rfl, hq⟩
  · obtain ⟨n, rs, e0⟩ : ∃ n rs, ns = n :: rs := by
      cases ns with
      | nil => exact absurd ((eqD_ints [] []).symm.trans hd) (by decide)
      | cons n rs => exact ⟨n, rs, rfl⟩
    subst e0
    refine wb_nil ?_
    refine wb_cons (ws_set 2 nd rfl (.inl rfl) ?_)
    refine we_ixG (fun _ _ => rfl) ?_
    refine we_ixG (fun _ _ => rfl) ?_
    refine we_var 0 rfl (by walk_at "vis") rfl ?_
    refine we_int ?_
    refine ⟨b, _, 0, _, rfl, rfl, boxG_b, rfl, rfl, ?_⟩
    refine we_int ?_
    refine ⟨g, _, 0, _, rfl, rfl, boxG_g hne, atI_nat (j := 0) rfl, rfl, ?_⟩
    refine ⟨lt_ rfl, _, rfl, ?_⟩
    refine wb_cons (ws_setG ?_)
    refine we_bin ?_
    refine we_var 2 rfl (by walk_at "vis") rfl ?_
    refine we_var 1 rfl (by walk_at "vis") rfl ?_
    refine ⟨_, _, .inl rfl, .inl rfl, ?_⟩
    refine opw_fdiv ⟨hm0, hm1⟩ ?_
    refine ⟨_, rfl, ?_⟩
    refine we_ixG (fun _ _ => rfl) ?_
    refine we_var 0 rfl (by walk_at "vis") rfl ?_
    refine we_int ?_
    refine ⟨b, _, 0, _, rfl, rfl, boxG_b, rfl, rfl, ?_⟩
    refine ⟨g, rfl, ?_⟩
    refine we_int ?_
    refine ⟨0, _, 0, rfl, boxG_g hne, ixN0 _ _, ?_⟩
    rw [show ((n :: rs).map V.int).set 0 (V.int (n / m)) = (n / m :: rs).map V.int from rfl, boxG_setG hne]
    have last : ∀ G', post (.sh (.int (n % m))) G' → WB (cxOf CX0 P w K mg base ["_law_box", "_law_many", "_law_figure"] "_law_take" (defScope s_law_take) f cdv A outer s H E).nox ((defBody s_law_take).drop 4) [.sh (.adr b), .sh (.int m), .sh (.int n)] G' { nx := fun _ G' => post (.sh .non) G', rt := post } := fun G' hG => by
      refine wb_cons (ws_ret ?_)
      refine we_bin ?_
      refine we_var 2 rfl (by walk_at "vis") rfl ?_
      refine we_var 1 rfl (by walk_at "vis") rfl ?_
      refine ⟨_, _, .inl rfl, .inl rfl, ?_⟩
      refine opw_mod hm0 ?_
      exact ⟨_, rfl, hG⟩
    refine wb_cons (ws_if ?_)
    refine wt_w (ww_orB ?_)
    refine wt_cmp (nomark _) ?_
    refine we_ixG (fun _ _ => rfl) ?_
    refine we_ixG (fun _ _ => rfl) ?_
    refine we_var 0 rfl (by walk_at "vis") rfl ?_
    refine we_int ?_
    refine ⟨b, _, 0, _, rfl, rfl, boxG_b, rfl, rfl, ?_⟩
    refine we_int ?_
    refine ⟨g, _, 0, _, rfl, rfl, boxG_g hne, atI_nat (j := 0) rfl, rfl, ?_⟩
    refine we_int ?_
    refine ⟨_, _, .inl rfl, .inl rfl, ?_⟩
    refine opw_eqI ?_
    refine ⟨_, rfl, ?_⟩
    refine ⟨decide (n / m = -1), fun hc => ?_, ?_⟩
    · refine ww_or1 ?_
      refine wt_cmp (nomark _) ?_
      refine we_ixG (fun _ _ => rfl) ?_
      refine we_ixG (fun _ _ => rfl) ?_
      refine we_var 0 rfl (by walk_at "vis") rfl ?_
      refine we_int ?_
      refine ⟨b, _, 0, _, rfl, rfl, boxG_b, rfl, rfl, ?_⟩
      refine we_int ?_
      refine ⟨g, _, 0, _, rfl, rfl, boxG_g hne, atI_nat (j := 0) rfl, rfl, ?_⟩
      refine we_un rfl ?_
      refine we_int ?_
      refine ⟨_, rfl, ?_⟩
      refine ⟨_, _, .inl rfl, .inl rfl, ?_⟩
      refine opw_eqI ?_
      exact ⟨_, rfl, rfl, rfl, rfl⟩
    have fin : decide (n / m = 0) || decide (n / m = -1) = decide (n / m = 0 ∨ n / m = -1) := by
      by_cases h1 : n / m = 0 <;> by_cases h2 : n / m = -1 <;> simp [h1, h2]
    refine ⟨fun hd2 => ?_, fun hd2 => ?_⟩
    · have hc : n / m = 0 ∨ n / m = -1 := by
        simpa using hd2
      refine wb_cons (ws_expr ?_)
      refine we_popG ?_
      refine we_ixG (fun _ _ => rfl) ?_
      refine we_var 0 rfl (by walk_at "vis") rfl ?_
      refine we_int ?_
      refine ⟨b, _, 0, _, rfl, rfl, boxG_b, rfl, rfl, ?_⟩
      refine ⟨g, _, rfl, boxG_g hne, ?_⟩
      refine we_int ?_
      refine ⟨0, _, _, rfl, boxG_g hne, rfl, rfl, by decide, ?_⟩
      refine wb_nil ?_
      rw [show ((n / m :: rs).map V.int).eraseIdx 0 = rs.map V.int from rfl, boxG_setG hne]
      refine last _ ?_
      have : (takeM (n :: rs) st m).2.1 = rs := if_pos hc
      rw [this] at hq
      exact hq
    · have hc : ¬ (n / m = 0 ∨ n / m = -1) := by
        simpa using hd2
      refine wb_nil ?_
      refine last _ ?_
      have : (takeM (n :: rs) st m).2.1 = n / m :: rs := if_neg hc
      rw [this] at hq
      exact hq

theorem ok_law_marks {f : Addr} {fd : FuncData} {k : Nat} (F : Fun K "_law_marks" "_law_marks" s_law_marks f fd) (B : Bn mg) (c_law_take : Cal P w K mg base "_law_take" k ["_law_box", "_law_many"] takeF) : FnOk P w K mg base CX0 (k + 1) f fd ["_law_box", "_law_most", "_law_length"] (spD K marksF) := by
  refine def_ok F sc_law_marks (fun ds G post h => ?_) (fun cdv A outer s H E hr ds G post h => ?_)
  · obtain ⟨G0, b, g, most, len, rfl, _⟩ := h; rfl
  obtain ⟨G0, b, g, most, len, rfl, hb, ⟨hm0, hm1⟩, ⟨hl0, hl1⟩, hq⟩ := h
  have nd := sc_law_marks.nd
  refine wb_cons (ws_par 3 4 rfl nd rfl rfl (by decide) rfl rfl (by rfl) ?_)
  refine we_listR2 rfl rfl B.list rfl B.range ?_
  refine we_int ?_
  refine we_bin ?_
  refine we_var 2 rfl (by walk_at "vis") rfl ?_
  refine we_int ?_
  refine ⟨_, _, .inl rfl, .inl rfl, ?_⟩
  refine opw_add ?_
  refine ⟨_, _, rfl, rfl, ⟨by omega, by omega, by omega, by omega, by omega⟩, ?_⟩
  refine ⟨_, _, rfl, ?_⟩
  refine we_lst ?_
  refine wa_cons ?_
  refine we_int ?_
  refine ⟨_, _, rfl, ?_⟩
  refine wa_nil ?_
  refine ⟨by decide, ?_⟩
  refine ⟨_, _, rfl, lt_ rfl, lt_ rfl, ?_⟩
  refine wb_cons (ws_forR (is := [5]) PassesOwn.never rfl (by rfl) B.range ?_)
  refine we_bin ?_
  refine we_int ?_
  refine we_cal c_law_take hr rfl ?_
  refine wa_cons ?_
  refine we_var 0 rfl (by walk_at "vis") rfl ?_
  refine ⟨_, _, rfl, ?_⟩
  refine wa_cons ?_
  refine we_bin ?_
  refine we_var 1 rfl (by walk_at "vis") rfl ?_
  refine we_int ?_
  refine ⟨_, _, .inl rfl, .inl rfl, ?_⟩
  refine opw_sub ?_
  refine ⟨_, _, rfl, ?_⟩
  refine wa_nil ?_
  refine ⟨G0, b, g, most - 1, rfl, hb, ⟨by omega, by omega⟩, fun v G1 hv0 hv1 hb1 => ?_⟩
  refine ⟨_, _, .inl rfl, .inl rfl, ?_⟩
  refine opw_add ?_
  refine ⟨_, rfl, ⟨by omega, by omega⟩, fun k r G' => Bx G0 b g G' ∧ ∃ left found z, Drawn len k left found ∧ r = [.sh (.adr b), .sh (.int most), .sh (.int len), .own (.lst (left.map D.int)), .own (.lst (found.map D.int)), z], ⟨hb1, _, [0], .no, Drawn.begin len, rfl⟩, fun k r3 G3 hk ⟨h1, left, found, z, hdr, h2⟩ => ?_, fun r3 G3 ⟨h1, left, found, z, hdr, h2⟩ => ?_⟩
  · subst h2
    have hlen : left.length ≤ 10000 := by
      have := hdr.perm.length_eq
      rw [List.length_append, List.length_cons, rgI_length] at this
      omega
    have hfl : found.length ≤ 10001 := by
      have := hdr.perm.length_eq
      rw [List.length_append, List.length_cons, rgI_length] at this
      omega
    refine wg_name 5 nd rfl (.inl rfl) (by decide) (lt_ rfl) ?_
    refine wb_cons (ws_if ?_)
    refine wt_cmp (nomark _) ?_
    refine we_var 3 rfl (by walk_at "vis") rfl ?_
    refine we_lst ?_
    refine wa_nil ?_
    refine ⟨by decide, ?_⟩
    refine ⟨_, _, .inl rfl, .inl rfl, ?_⟩
    refine opw_neD (n := 1) hr.units (okD_ints left) (okD_ints []) (by decide) ?_
    refine ⟨_, rfl, fun hd => ?_, fun hd => ?_⟩
    · have hne : left ≠ [] := fun z => by
        subst z
        exact absurd hd (by decide)
      have hpos : 0 < left.length := List.length_pos_iff.mpr hne
      refine wb_cons (ws_expr ?_)
      refine we_append ?_
      refine we_var 4 rfl (by walk_at "vis") rfl ?_
      refine ⟨_, _, rfl, rfl, ?_⟩
      refine we_popAt ?_
      refine we_var 3 rfl (by walk_at "vis") rfl ?_
      refine ⟨_, _, rfl, rfl, ?_⟩
      refine we_cal c_law_take hr rfl ?_
      refine wa_cons ?_
      refine we_var 0 rfl (by walk_at "vis") rfl ?_
      refine ⟨_, _, rfl, ?_⟩
      refine wa_cons ?_
      refine we_b1 (x := "len") (id := "len") rfl B.len bt_len ?_
      refine we_var 3 rfl (by walk_at "vis") rfl ?_
      refine ⟨_, .inl rfl, ?_⟩
      refine c_len ?_
      refine ⟨_, _, rfl, ?_⟩
      refine wa_nil ?_
      refine ⟨G0, b, g, ((left.map D.int).length : Nat), rfl, h1, ⟨by rw [List.length_map]; omega, by rw [List.length_map]; omega⟩, fun u G4 hu0 hu1 hb4 => ?_⟩
      rw [List.length_map] at hu1
      obtain ⟨j, rfl⟩ : ∃ j : Nat, u = (j : Int) := ⟨u.toNat, by omega⟩
      have hj : j < left.length := by omega
      have hx : left[j]? = some left[j] := List.getElem?_eq_getElem hj
      refine ⟨j, _, _, .int left[j], rfl, rfl, by rw [List.getElem?_map, hx]; rfl, by rw [List.length_map]; unfold LIM; omega, ?_⟩
      refine ⟨_, _, _, rfl, rfl, by rw [List.length_map]; unfold LIM; omega, ?_⟩
      refine wb_nil (wb_nil ?_)
      refine ⟨hb4, left.eraseIdx j, found ++ [left[j]], .sh (.int (k : Nat)), hdr.step hx, ?_⟩
      rw [List.map_append, map_erase]
      rfl
    · refine wb_nil (wb_nil ?_)
      have hne : left = [] := by
        cases left with
        | nil => rfl
        | cons x xs =>
          have e := eqD_ints (x :: xs) []
          have hd' : (!eqD (D.lst ((x :: xs).map D.int)) (D.lst (([] : List Int).map D.int))) = false := hd
          rw [e] at hd'
          simp at hd'
      subst hne
      exact ⟨h1, [], found, _, hdr.skip, rfl⟩
  · subst h2
    refine wb_cons (ws_ret ?_)
    refine we_t1 (x := "tuple") (id := "tuple") rfl B.tuple bt_tuple ?_
    refine we_b1 (x := "sorted") (id := "sorted") rfl B.sorted bt_sorted ?_
    refine we_var 4 rfl (by walk_at "vis") rfl ?_
    refine ⟨_, .inl rfl, ?_⟩
    refine c_sorted ?_
    refine ⟨_, .inl rfl, ?_⟩
    refine c_tuple ?_
    refine ⟨_, rfl, ?_⟩
    exact hq _ _ (hdr.good hl0 (by omega) (by omega)) h1

theorem ok_spread_of {f : Addr} {fd : FuncData} {k : Nat} (F : Fun K "spread_of" "spread_of" s_spread_of f fd) (B : Bn mg) : FnOk P w K mg base CX0 (k + 1) f fd ["marks"] (spD K spreadB) := by
  refine def_ok F sc_spread_of (fun ds G post h => ?_) (fun cdv A outer s H E hr ds G post h => ?_)
  · obtain ⟨ms, h, _⟩ := h; rcases h with rfl | rfl <;> rfl
  obtain ⟨ms, hd, hl, hq⟩ := h
  have nd := sc_spread_of.nd
  rcases hd with rfl | rfl
  · refine wb_cons (ws_set 1 nd rfl (.inl rfl) ?_)
    refine we_lst (wa_nil ⟨by decide, ?_⟩)
    refine ⟨lt_ rfl, _, rfl, ?_⟩
    refine wb_cons (ws_forET (is := [2, 3]) PassesOwn.never rfl (by rfl) B.enumerate ?_)
    refine we_var 0 rfl (by walk_at "vis") rfl ?_
    refine ⟨_, _, rfl, fun k r G' => G' = G ∧ ∃ found z2 z3 z4, found ++ spreadL (ms.drop k) = spreadL ms ∧ r = [.sh (.tup (ms.map D.int)), .own (.lst (found.map D.int)), z2, z3, z4], ⟨rfl, [], .no, .no, .no, rfl, rfl⟩, fun k d r3 G3 hk ⟨h1, found, z2, z3, z4, hf, h2⟩ => ?_, fun r3 G3 ⟨h1, found, z2, z3, z4, hf, h2⟩ => ?_⟩
    · subst h1 h2
      obtain ⟨m, hkm, rfl⟩ := ints_get hk
      have hfl : found.length + (ms.drop (k + 1)).length ≤ 90000 := by
        have h1 := spread_len ms
        have h2 : ms.length * ms.length ≤ 300 * 300 := Nat.mul_le_mul hl hl
        rw [← hf, spread_step hkm, List.length_append, List.length_append, List.length_map] at h1
        omega
      refine wg_pair 2 3 rfl nd rfl rfl (by walk_at "vis") (by walk_at "vis") (by decide) (by decide) (lt_ rfl) (lt_ rfl) ?_
      refine wb_cons (ws_expr ?_)
      refine we_extend ?_
      refine we_var 1 rfl (by walk_at "vis") rfl ?_
      refine ⟨_, _, rfl, rfl, ?_⟩
      refine we_lcT [("other", 4)] rfl nd (blkOk_by (by rfl)) ?_
      refine we_slice ?_
      refine we_var 0 rfl (by walk_at "vis") rfl ?_
      refine wo_some ?_
      refine we_bin ?_
      refine we_var 2 rfl (by walk_at "vis") rfl ?_
      refine we_int ?_
      refine ⟨_, _, .inl rfl, .inl rfl, ?_⟩
      refine opw_add ?_
      refine ⟨_, rfl, ?_⟩
      refine wo_none ?_
      refine ⟨_, .inl rfl, ?_⟩
      refine slw_tup ?_
      rw [show ((k : Nat) : Int) + 1 = ((k + 1 : Nat) : Int) from rfl, cutD_from, ← List.map_drop]
      refine ⟨_, _, rfl, fun j acc r G' => G' = G3 ∧ acc = (((ms.drop (k + 1)).take j).map (fun o => o - m)).map D.int ∧ r = [.sh (.tup (ms.map D.int)), .own (.lst (found.map D.int)), .sh (.int (k : Nat)), .sh (.int m), .no], ⟨rfl, rfl, rfl⟩, fun j d acc r4 G4 hj ⟨h1, h2, h3⟩ => ?_, fun acc r4 G4 ⟨h1, h2, h3⟩ => ?_⟩
      · subst h1 h2 h3
        obtain ⟨o, hjo, rfl⟩ := ints_get hj
        have hlj : j < (ms.drop (k + 1)).length := (List.getElem?_eq_some_iff.mp hjo).1
        rintro Y ⟨s1, H1, C1, cl, fp, rfl⟩
        refine wg_name 4 nd rfl (by walk_at "vis") (by decide) (lt_ rfl) ?_
        rintro Y ⟨s1, H1, C1, cl, fp, rfl⟩
        refine we_bin ?_
        refine we_var 4 rfl (by walk_at "vis") rfl ?_
        refine we_var 3 rfl (by walk_at "vis") rfl ?_
        refine ⟨_, _, .inl rfl, .inl rfl, ?_⟩
        refine opw_sub ?_
        refine ⟨_, _, rfl, ?_, rfl, ?_, rfl⟩
        · rw [List.length_map, List.length_map, List.length_take]; unfold LIM; omega
        · rw [map_snoc _ hjo, List.map_append]; rfl
      · subst h1 h2 h3
        rw [List.length_map, List.take_length]
        refine ⟨_, _, _, rfl, rfl, ?_, ?_⟩
        · rw [List.length_map, List.length_map, List.length_map]; unfold LIM; omega
        refine wb_nil ⟨rfl, found ++ (ms.drop (k + 1)).map (fun o => o - m), .sh (.int (k : Nat)), .sh (.int m), .no, ?_, ?_⟩
        · rw [List.append_assoc, ← spread_step hkm]; exact hf
        · rw [List.map_append]; rfl
    · subst h1 h2
      rw [List.length_map, List.drop_length, spreadL, List.append_nil] at hf
      subst hf
      refine wb_cons (ws_ret ?_)
      refine we_b1 (x := "sorted") (id := "sorted") rfl B.sorted bt_sorted ?_
      refine we_var 1 rfl (by walk_at "vis") rfl ?_
      refine ⟨_, .inl rfl, ?_⟩
      refine c_sorted ?_
      exact ⟨_, rfl, hq⟩
  · refine wb_cons (ws_set 1 nd rfl (.inl rfl) ?_)
    refine we_lst (wa_nil ⟨by decide, ?_⟩)
    refine ⟨lt_ rfl, _, rfl, ?_⟩
    refine wb_cons (ws_forEL (is := [2, 3]) PassesOwn.never rfl (by rfl) B.enumerate ?_)
    refine we_var 0 rfl (by walk_at "vis") rfl ?_
    refine ⟨_, _, rfl, fun k r G' => G' = G ∧ ∃ found z2 z3 z4, found ++ spreadL (ms.drop k) = spreadL ms ∧ r = [.sh (.lst (ms.map D.int)), .own (.lst (found.map D.int)), z2, z3, z4], ⟨rfl, [], .no, .no, .no, rfl, rfl⟩, fun k d r3 G3 hk ⟨h1, found, z2, z3, z4, hf, h2⟩ => ?_, fun r3 G3 ⟨h1, found, z2, z3, z4, hf, h2⟩ => ?_⟩
    · subst h1 h2
      obtain ⟨m, hkm, rfl⟩ := ints_get hk
      have hfl : found.length + (ms.drop (k + 1)).length ≤ 90000 := by
        have h1 := spread_len ms
        have h2 : ms.length * ms.length ≤ 300 * 300 := Nat.mul_le_mul hl hl
        rw [← hf, spread_step hkm, List.length_append, List.length_append, List.length_map] at h1
        omega
      refine wg_pair 2 3 rfl nd rfl rfl (by walk_at "vis") (by walk_at "vis") (by decide) (by decide) (lt_ rfl) (lt_ rfl) ?_
      refine wb_cons (ws_expr ?_)
      refine we_extend ?_
      refine we_var 1 rfl (by walk_at "vis") rfl ?_
      refine ⟨_, _, rfl, rfl, ?_⟩
      refine we_lcL [("other", 4)] rfl nd (blkOk_by (by rfl)) ?_
      refine we_slice ?_
      refine we_var 0 rfl (by walk_at "vis") rfl ?_
      refine wo_some ?_
      refine we_bin ?_
      refine we_var 2 rfl (by walk_at "vis") rfl ?_
      refine we_int ?_
      refine ⟨_, _, .inl rfl, .inl rfl, ?_⟩
      refine opw_add ?_
      refine ⟨_, rfl, ?_⟩
      refine wo_none ?_
      refine ⟨_, .inl rfl, ?_⟩
      refine slw_lst ?_
      rw [show ((k : Nat) : Int) + 1 = ((k + 1 : Nat) : Int) from rfl, cutD_from, ← List.map_drop]
      refine ⟨_, _, rfl, fun j acc r G' => G' = G3 ∧ acc = (((ms.drop (k + 1)).take j).map (fun o => o - m)).map D.int ∧ r = [.sh (.lst (ms.map D.int)), .own (.lst (found.map D.int)), .sh (.int (k : Nat)), .sh (.int m), .no], ⟨rfl, rfl, rfl⟩, fun j d acc r4 G4 hj ⟨h1, h2, h3⟩ => ?_, fun acc r4 G4 ⟨h1, h2, h3⟩ => ?_⟩
      · subst h1 h2 h3
        obtain ⟨o, hjo, rfl⟩ := ints_get hj
        have hlj : j < (ms.drop (k + 1)).length := (List.getElem?_eq_some_iff.mp hjo).1
        rintro Y ⟨s1, H1, C1, cl, fp, rfl⟩
        refine wg_name 4 nd rfl (by walk_at "vis") (by decide) (lt_ rfl) ?_
        rintro Y ⟨s1, H1, C1, cl, fp, rfl⟩
        refine we_bin ?_
        refine we_var 4 rfl (by walk_at "vis") rfl ?_
        refine we_var 3 rfl (by walk_at "vis") rfl ?_
        refine ⟨_, _, .inl rfl, .inl rfl, ?_⟩
        refine opw_sub ?_
        refine ⟨_, _, rfl, ?_, rfl, ?_, rfl⟩
        · rw [List.length_map, List.length_map, List.length_take]; unfold LIM; omega
        · rw [map_snoc _ hjo, List.map_append]; rfl
      · subst h1 h2 h3
        rw [List.length_map, List.take_length]
        refine ⟨_, _, _, rfl, rfl, ?_, ?_⟩
        · rw [List.length_map, List.length_map, List.length_map]; unfold LIM; omega
        refine wb_nil ⟨rfl, found ++ (ms.drop (k + 1)).map (fun o => o - m), .sh (.int (k : Nat)), .sh (.int m), .no, ?_, ?_⟩
        · rw [List.append_assoc, ← spread_step hkm]; exact hf
        · rw [List.map_append]; rfl
    · subst h1 h2
      rw [List.length_map, List.drop_length, spreadL, List.append_nil] at hf
      subst hf
      refine wb_cons (ws_ret ?_)
      refine we_b1 (x := "sorted") (id := "sorted") rfl B.sorted bt_sorted ?_
      refine we_var 1 rfl (by walk_at "vis") rfl ?_
      refine ⟨_, .inl rfl, ?_⟩
      refine c_sorted ?_
      exact ⟨_, rfl, hq⟩


theorem ok_mirrored {f : Addr} {fd : FuncData} {k : Nat} (F : Fun K "mirrored" "mirrored" s_mirrored f fd) (B : Bn mg) : FnOk P w K mg base CX0 (k + 1) f fd ["marks"] (spD K turnF) := by
  refine def_ok F sc_mirrored (fun ds G post h => ?_) (fun cdv A outer s H E hr ds G post h => ?_)
  · obtain ⟨ms, rfl, _⟩ := h; rfl
  obtain ⟨ms, rfl, ⟨hn, hl⟩, hq⟩ := h
  have nd := sc_mirrored.nd
  refine wb_cons (ws_ret ?_)
  refine we_t1 (x := "tuple") (id := "tuple") rfl B.tuple bt_tuple ?_
  refine we_lcV [("mark", 1)] rfl nd (blkOk_by (by rfl)) (by rfl) B.reversed ?_
  refine we_t1 (x := "list") (id := "list") rfl B.list bt_list ?_
  refine we_var 0 rfl (by walk_at "vis") rfl ?_
  refine ⟨_, .inl rfl, ?_⟩
  refine c_listT ?_
  refine ⟨_, _, rfl, fun j acc r G' => G' = G ∧ acc = ((ms.reverse.take j).map (fun o => ms.getLast?.getD 0 - o)).map D.int ∧ r = [.sh (.tup (ms.map D.int)), .no], ⟨rfl, rfl, rfl⟩, fun j d acc r4 G4 hj ⟨h1, h2, h3⟩ => ?_, fun acc r4 G4 ⟨h1, h2, h3⟩ => ?_⟩
  · subst h1 h2 h3
    rw [← List.map_reverse] at hj
    obtain ⟨o, hjo, rfl⟩ := ints_get hj
    have hlj : j < ms.reverse.length := (List.getElem?_eq_some_iff.mp hjo).1
    rw [List.length_reverse] at hlj
    rintro Y ⟨s1, H1, C1, cl, fp, rfl⟩
    refine wg_name 1 nd rfl (by walk_at "vis") (by decide) (lt_ rfl) ?_
    rintro Y ⟨s1, H1, C1, cl, fp, rfl⟩
    refine we_bin ?_
    refine we_ix (fun _ _ => rfl) ?_
    refine we_var 0 rfl (by walk_at "vis") rfl ?_
    refine we_un rfl ?_
    refine we_int ?_
    refine ⟨_, rfl, ?_⟩
    refine ⟨_, _, .inl rfl, .inl rfl, ?_⟩
    refine ixw_tup (atD_last hn) ?_
    refine we_var 1 rfl (by walk_at "vis") rfl ?_
    refine ⟨_, _, .inl rfl, .inl rfl, ?_⟩
    refine opw_sub ?_
    refine ⟨_, _, rfl, ?_, rfl, ?_, rfl⟩
    · rw [List.length_map, List.length_map, List.length_take]; unfold LIM; omega
    · rw [map_snoc _ hjo, List.map_append]; rfl
  · subst h1 h2 h3
    rw [List.length_map, ← List.length_reverse, List.take_length]
    refine ⟨_, .inl rfl, ?_⟩
    refine c_tuple ?_
    exact ⟨_, rfl, hq⟩

theorem ok_law_different {f : Addr} {fd : FuncData} {k : Nat} (F : Fun K "_law_different" "_law_different" s_law_different f fd) (B : Bn mg) : FnOk P w K mg base CX0 (k + 1) f fd ["_law_values"] (spD K diffF) := by
  refine def_ok F sc_law_different (fun ds G post h => ?_) (fun cdv A outer s H E hr ds G post h => ?_)
  · obtain ⟨ns, rfl, _⟩ := h; rfl
  obtain ⟨ns, rfl, hl, hq⟩ := h
  have nd := sc_law_different.nd
  refine wb_cons (ws_ret ?_)
  refine we_b1 (x := "sorted") (id := "sorted") rfl B.sorted bt_sorted ?_
  refine we_t1 (x := "dict") (id := "dict") rfl B.dict bt_dict ?_
  refine we_lcL [("_law_value", 1)] rfl nd (blkOk_by (by rfl)) ?_
  refine we_var 0 rfl (by walk_at "vis") rfl ?_
  refine ⟨_, _, rfl, fun j acc r G' => G' = G ∧ acc = (ns.take j).map (fun n => D.tup [.int n, .bl true]) ∧ r = [.sh (.lst (ns.map D.int)), .no], ⟨rfl, rfl, rfl⟩, fun j d acc r4 G4 hj ⟨h1, h2, h3⟩ => ?_, fun acc r4 G4 ⟨h1, h2, h3⟩ => ?_⟩
  · subst h1 h2 h3
    obtain ⟨o, hjo, rfl⟩ := ints_get hj
    have hlj : j < ns.length := (List.getElem?_eq_some_iff.mp hjo).1
    rintro Y ⟨s1, H1, C1, cl, fp, rfl⟩
    refine wg_name 1 nd rfl (by walk_at "vis") (by decide) (lt_ rfl) ?_
    rintro Y ⟨s1, H1, C1, cl, fp, rfl⟩
    refine we_tup ?_
    refine wa_cons ?_
    refine we_var 1 rfl (by walk_at "vis") rfl ?_
    refine ⟨_, _, rfl, ?_⟩
    refine wa_cons ?_
    refine we_bl ?_
    refine ⟨_, _, rfl, ?_⟩
    refine wa_nil ?_
    refine ⟨lt_ rfl, ?_⟩
    refine ⟨_, _, rfl, ?_, rfl, ?_, rfl⟩
    · rw [List.length_map, List.length_take]; unfold LIM; omega
    · rw [map_snoc _ hjo]
  · subst h1 h2 h3
    rw [List.length_map, List.take_length]
    refine ⟨.lst ((tkv ns).map fun kv => .tup [kD kv.1, kv.2]), .inl ?_, ?_⟩
    · unfold tkv; rw [List.map_map]; rfl
    refine c_dictP rfl ?_
    have e : (tkv ns).foldl (fun acc kv => putD acc kv.1 kv.2) [] = tdic ns := by
      unfold tkv tdic
      rw [List.foldl_map]
    rw [e, dicD_tdic]
    refine ⟨_, .inl rfl, ?_⟩
    refine c_sortedD rfl ?_
    exact ⟨_, rfl, hq⟩

theorem ok_is_number {f : Addr} {fd : FuncData} {k : Nat} (F : Fun K "is_number" "is_number" s_is_number f fd) (B : Bn mg) : FnOk P w K mg base CX0 (k + 1) f fd ["value", "lowest", "highest"] (spD K numF) := by
  refine def_ok F sc_is_number (fun ds G post h => ?_) (fun cdv A outer s H E hr ds G post h => ?_)
  · obtain ⟨d, lo, hi, rfl, _⟩ := h; rfl
  obtain ⟨d, lo, hi, rfl, hty, hq⟩ := h
  have nd := sc_is_number.nd
  refine wb_cons (ws_ret ?_)
  refine we_and ?_
  refine we_isi rfl B.isinstance bt_isinstance rfl B.int bt_int ?_
  refine we_var 0 rfl (by walk_at "vis") rfl ?_
  cases d with
  | int v =>
    refine ⟨_, _, _, .inl rfl, rfl, kt_int_int, ?_⟩
    refine ⟨_, rfl, fun _ => ?_, fun hd => absurd (show true = false from hd) (by decide)⟩
    refine we_and ?_
    refine we_not ?_
    refine we_isi rfl B.isinstance bt_isinstance rfl B.bool bt_bool ?_
    refine we_var 0 rfl (by walk_at "vis") rfl ?_
    refine ⟨_, _, _, .inl rfl, rfl, kt_int_bool, ?_⟩
    refine ⟨_, rfl, ?_⟩
    refine ⟨_, rfl, fun _ => ?_, fun hd => absurd (show true = false from hd) (by decide)⟩
    refine we_one ?_
    refine we_chainI (fun i j R q => opw_le q) (fun i j R q => opw_le q) ?_
    refine we_var 1 rfl (by walk_at "vis") rfl ?_
    refine we_var 0 rfl (by walk_at "vis") rfl ?_
    refine ⟨lo, v, hi, rfl, rfl, fun _ => ?_, ?_⟩
    · refine we_var 2 rfl (by walk_at "vis") rfl ?_
      exact ⟨rfl, rfl, rfl⟩
    exact ⟨_, rfl, hq⟩
  | bl v =>
    refine ⟨_, _, _, .inl rfl, rfl, kt_bool_int, ?_⟩
    refine ⟨_, rfl, fun _ => ?_, fun hd => absurd (show true = false from hd) (by decide)⟩
    refine we_and ?_
    refine we_not ?_
    refine we_isi rfl B.isinstance bt_isinstance rfl B.bool bt_bool ?_
    refine we_var 0 rfl (by walk_at "vis") rfl ?_
    refine ⟨_, _, _, .inl rfl, rfl, kt_bool_bool, ?_⟩
    refine ⟨_, rfl, ?_⟩
    exact ⟨_, rfl, fun hd => absurd (show false = true from hd) Bool.false_ne_true, fun _ => ⟨_, rfl, hq⟩⟩
  | non =>
    refine ⟨_, _, _, .inl rfl, rfl, kt_NoneType_int, ?_⟩
    exact ⟨_, rfl, fun hd => absurd (show false = true from hd) Bool.false_ne_true, fun _ => ⟨_, rfl, hq⟩⟩
  | str x =>
    refine ⟨_, _, _, .inl rfl, rfl, kt_str_int, ?_⟩
    exact ⟨_, rfl, fun hd => absurd (show false = true from hd) Bool.false_ne_true, fun _ => ⟨_, rfl, hq⟩⟩
  | tup x =>
    refine ⟨_, _, _, .inl rfl, rfl, kt_tuple_int, ?_⟩
    exact ⟨_, rfl, fun hd => absurd (show false = true from hd) Bool.false_ne_true, fun _ => ⟨_, rfl, hq⟩⟩
  | lst x =>
    refine ⟨_, _, _, .inl rfl, rfl, kt_list_int, ?_⟩
    exact ⟨_, rfl, fun hd => absurd (show false = true from hd) Bool.false_ne_true, fun _ => ⟨_, rfl, hq⟩⟩
  | dic x y =>
    refine ⟨_, _, _, .inl rfl, rfl, kt_dict_int, ?_⟩
    exact ⟨_, rfl, fun hd => absurd (show false = true from hd) Bool.false_ne_true, fun _ => ⟨_, rfl, hq⟩⟩
  | ins C x => cases hty
  | adr a => cases hty

/-! ### Ruler -/
def rulD (C : Addr) (ms : List Int) (e : Int) : D := .ins C [.int e, .tup (ms.map D.int)]
open Classical in
noncomputable def rulI : List D → Option (List D) := fun ds => match ds with
  | [m, e] => if ∃ ms i, m = .tup (ms.map D.int) ∧ e = .int i ∧ GoodM 12 300 ms ∧ 0 ≤ i ∧ i ≤ 9 then some [e, m] else none
  | _ => none
theorem rulI_of {ms : List Int} {e : Int} (h : GoodM 12 300 ms) (h0 : 0 ≤ e) (h1 : e ≤ 9) : rulI [.tup (ms.map D.int), .int e] = some [.int e, .tup (ms.map D.int)] := if_pos ⟨ms, e, rfl, rfl, h, h0, h1⟩
theorem rulI_get {ds ys : List D} (h : rulI ds = some ys) : ∃ ms e, ds = [.tup (ms.map D.int), .int e] ∧ GoodM 12 300 ms ∧ (0 ≤ e ∧ e ≤ 9) ∧ ys = [.int e, .tup (ms.map D.int)] := by
  unfold rulI at h
  split at h
  · split at h
    · rename_i hh
      obtain ⟨ms, i, rfl, rfl, h2, h3⟩ := hh
      cases h
      exact ⟨ms, i, rfl, h2, h3, rfl⟩
    · cases h
  · cases h
/-- what the class is, in the fragment -/
structure RulC (K : PySem.W.Frag) (C : Addr) : Prop where
  cls : SlX.SCls K C
  isi : SlX.SIsi K C
  s0 : ∃ p, SlX.Slot1 K C "own_marks" p 1
  s1 : ∃ p, SlX.Slot1 K C "own_error" p 0
  same : PySem.W.kitOne K (.ref C) (.ref C) = some true
  tupN : PySem.W.kitOne K (.type "tuple") (.ref C) = some false
  nf : PySem.W.notFirst K C (.ref C) = true
  nfT : PySem.W.notFirst K C (.type "tuple") = true
def getF (C : Addr) (i : Nat) : FSp := fun ds G post => ∃ xs d, ds = [.ins C xs] ∧ xs[i]? = some d ∧ post (.sh d) G
def lenF (C : Addr) : FSp := fun ds G post => ∃ ms e, ds = [rulD C ms e] ∧ ms ≠ [] ∧ post (.sh (.int (ms.getLast?.getD 0))) G
def sprF (C : Addr) : FSp := fun ds G post => ∃ ms e, ds = [rulD C ms e] ∧ ms.length ≤ 300 ∧ post (.sh (.tup ((isort (spreadL ms)).map D.int))) G
def spaF (C : Addr) : FSp := fun ds G post => ∃ ms e, ds = [rulD C ms e] ∧ ms.length ≤ 300 ∧ post (.sh (.tup ((isort (dedI (isort (spreadL ms)))).map D.int))) G
def numbF (C : Addr) : FSp := fun ds G post => ∃ (ms : List Int) (e : Int), ds = [rulD C ms e] ∧ post (.sh (.int (ms.length : Nat))) G
def eqF (C : Addr) : FSp := fun ds G post => ∃ (ms : List Int) (e : Int), (∃ (ms' : List Int) (e' : Int), ds = [rulD C ms e, rulD C ms' e'] ∧ post (.sh (.bl (decide (ms = ms' ∧ e = e')))) G) ∨ ∃ es, ds = [rulD C ms e, .tup es] ∧ post (.sh (.bl false)) G
theorem ok_Ruler_marks {f C : Addr} {fd : FuncData} {k : Nat} (F : Fun K "marks" "Ruler.marks" s_Ruler_marks f fd) (R : RulC K C) : FnOk P w K mg base CX0 (k + 1) f fd ["self"] (spD K (getF C 1)) := by
  refine def_ok F sc_Ruler_marks (fun ds G post h => ?_) (fun cdv A outer s H E hr ds G post h => ?_)
  · obtain ⟨xs, d, rfl, _⟩ := h; rfl
  obtain ⟨xs, d, rfl, hx, hq⟩ := h
  obtain ⟨p, t⟩ := R.s0
  refine wb_cons (ws_ret ?_)
  refine we_fld 1 R.cls t ?_
  refine we_var 0 rfl (by walk_at "vis") rfl ?_
  exact ⟨_, _, rfl, hx, _, rfl, hq⟩
theorem ok_Ruler_error {f C : Addr} {fd : FuncData} {k : Nat} (F : Fun K "error" "Ruler.error" s_Ruler_error f fd) (R : RulC K C) : FnOk P w K mg base CX0 (k + 1) f fd ["self"] (spD K (getF C 0)) := by
  refine def_ok F sc_Ruler_error (fun ds G post h => ?_) (fun cdv A outer s H E hr ds G post h => ?_)
  · obtain ⟨xs, d, rfl, _⟩ := h; rfl
  obtain ⟨xs, d, rfl, hx, hq⟩ := h
  obtain ⟨p, t⟩ := R.s1
  refine wb_cons (ws_ret ?_)
  refine we_fld 0 R.cls t ?_
  refine we_var 0 rfl (by walk_at "vis") rfl ?_
  exact ⟨_, _, rfl, hx, _, rfl, hq⟩
theorem ok_Ruler_length {f C : Addr} {fd : FuncData} {k : Nat} (F : Fun K "length" "Ruler.length" s_Ruler_length f fd) (R : RulC K C) : FnOk P w K mg base CX0 (k + 1) f fd ["self"] (spD K (lenF C)) := by
  refine def_ok F sc_Ruler_length (fun ds G post h => ?_) (fun cdv A outer s H E hr ds G post h => ?_)
  · obtain ⟨ms, e, rfl, _⟩ := h; rfl
  obtain ⟨ms, e, rfl, hn, hq⟩ := h
  obtain ⟨p, t⟩ := R.s0
  refine wb_cons (ws_ret ?_)
  refine we_ix (fun _ _ => rfl) ?_
  refine we_fld 1 R.cls t ?_
  refine we_var 0 rfl (by walk_at "vis") rfl ?_
  refine ⟨_, _, rfl, rfl, ?_⟩
  refine we_un rfl ?_
  refine we_int ?_
  refine ⟨_, rfl, ?_⟩
  refine ⟨_, _, .inl rfl, .inl rfl, ?_⟩
  refine ixw_tup (atD_last hn) ?_
  exact ⟨_, rfl, hq⟩
theorem ok_Ruler_spans {f C : Addr} {fd : FuncData} {k : Nat} (F : Fun K "spans" "Ruler.spans" s_Ruler_spans f fd) (B : Bn mg) (R : RulC K C) (c_spread_of : Cal P w K mg base "spread_of" k ["marks"] spreadB) : FnOk P w K mg base CX0 (k + 1) f fd ["self"] (spD K (spaF C)) := by
  refine def_ok F sc_Ruler_spans (fun ds G post h => ?_) (fun cdv A outer s H E hr ds G post h => ?_)
  · obtain ⟨ms, e, rfl, _⟩ := h; rfl
  obtain ⟨ms, e, rfl, hn, hq⟩ := h
  have nd := sc_Ruler_spans.nd
  obtain ⟨p, t⟩ := R.s0
  refine wb_cons (ws_ret ?_)
  refine we_t1 (x := "tuple") (id := "tuple") rfl B.tuple bt_tuple ?_
  refine we_b1 (x := "sorted") (id := "sorted") rfl B.sorted bt_sorted ?_
  refine we_dcL [("span", 1)] rfl nd (blkOk_by (by rfl)) ?_
  refine we_cal c_spread_of hr rfl ?_
  refine wa_cons ?_
  refine we_fld 1 R.cls t ?_
  refine we_var 0 rfl (by walk_at "vis") rfl ?_
  refine ⟨_, _, rfl, rfl, ?_⟩
  refine ⟨_, _, rfl, ?_⟩
  refine wa_nil ?_
  refine ⟨ms, .inl rfl, hn, ?_⟩
  have hl : (isort (spreadL ms)).length ≤ 90000 := by
    rw [isort_length]
    have h1 := spread_len ms
    have h2 : ms.length * ms.length ≤ 300 * 300 := Nat.mul_le_mul hn hn
    omega
  generalize isort (spreadL ms) = ns at hl hq ⊢
  refine ⟨_, _, rfl, fun j acc r G' => G' = G ∧ acc = tdic (ns.take j) ∧ r = [.sh (rulD C ms e), .no], ⟨rfl, rfl, rfl⟩, fun j d acc r4 G4 hj ⟨h1, h2, h3⟩ => ?_, fun acc r4 G4 ⟨h1, h2, h3⟩ => ?_⟩
  · subst h1 h2 h3
    obtain ⟨o, hjo, rfl⟩ := ints_get hj
    rintro Y ⟨s1, H1, C1, cl, fp, rfl⟩
    refine wg_name 1 nd rfl (by walk_at "vis") (by decide) (lt_ rfl) ?_
    rintro Y ⟨s1, H1, C1, cl, fp, rfl⟩
    refine we_var 1 rfl (by walk_at "vis") rfl ?_
    refine ⟨.inl o, rfl, ?_⟩
    rintro Y ⟨s1, H1, C1, cl, fp, rfl⟩
    refine we_bl ?_
    refine ⟨_, _, rfl, ?_, rfl, ?_, rfl⟩
    · have := tdic_len (ns.take j)
      rw [List.length_take] at this
      unfold LIM; omega
    · rw [tdic_snoc hjo]
  · subst h1 h2 h3
    rw [List.length_map, List.take_length, dicD_tdic]
    refine ⟨_, .inl rfl, ?_⟩
    refine c_sortedD rfl ?_
    refine ⟨_, .inl rfl, ?_⟩
    refine c_tuple ?_
    exact ⟨_, rfl, hq⟩
theorem ok_Ruler_len {f C : Addr} {fd : FuncData} {k : Nat} (F : Fun K "__len__" "Ruler.__len__" s_Ruler_len f fd) (B : Bn mg) (R : RulC K C) : FnOk P w K mg base CX0 (k + 1) f fd ["self"] (spD K (numbF C)) := by
  refine def_ok F sc_Ruler_len (fun ds G post h => ?_) (fun cdv A outer s H E hr ds G post h => ?_)
  · obtain ⟨ms, e, rfl, _⟩ := h; rfl
  obtain ⟨ms, e, rfl, hq⟩ := h
  obtain ⟨p, t⟩ := R.s0
  refine wb_cons (ws_ret ?_)
  refine we_b1 (x := "len") (id := "len") rfl B.len bt_len ?_
  refine we_fld 1 R.cls t ?_
  refine we_var 0 rfl (by walk_at "vis") rfl ?_
  refine ⟨_, _, rfl, rfl, ?_⟩
  refine ⟨_, .inl rfl, ?_⟩
  refine c_lenT ?_
  rw [List.length_map]
  exact ⟨_, rfl, hq⟩
theorem ok_Ruler_eq {f C : Addr} {fd : FuncData} {k : Nat} (F : Fun K "__eq__" "Ruler.__eq__" s_Ruler_eq f fd) (B : Bn mg) (R : RulC K C) (m_Ruler : mg "Ruler" = some (.ref C)) (p_marks : PropD P w K mg base C "marks" k (getF C 1)) (p_error : PropD P w K mg base C "error" k (getF C 0)) : FnOk P w K mg base CX0 (k + 2) f fd ["self", "other"] (spD K (eqF C)) := by
  refine def_ok F sc_Ruler_eq (fun ds G post h => ?_) (fun cdv A outer s H E hr ds G post h => ?_)
  · obtain ⟨ms, e, ⟨ms', e', rfl, _⟩ | ⟨es, rfl, _⟩⟩ := h <;> rfl
  obtain ⟨p, t⟩ := R.s0
  obtain ⟨p', t'⟩ := R.s1
  refine wb_cons (ws_ret ?_)
  refine we_and ?_
  obtain ⟨ms, e, ⟨ms', e', rfl, hq⟩ | ⟨es, rfl, hq⟩⟩ := h
  · refine we_isiI rfl B.isinstance bt_isinstance rfl m_Ruler R.cls R.isi ?_
    refine we_var 1 rfl (by walk_at "vis") rfl ?_
    refine ⟨_, _, rfl, R.same, ?_⟩
    refine ⟨_, rfl, fun _ => ?_, fun hd => absurd (show true = false from hd) (by decide)⟩
    refine we_and ?_
    refine we_cmp (nomark _) ?_
    refine we_fld 1 R.cls t ?_
    refine we_var 0 rfl (by walk_at "vis") rfl ?_
    refine ⟨_, _, rfl, rfl, ?_⟩
    refine we_prop R.cls p_marks hr ?_
    refine we_var 1 rfl (by walk_at "vis") rfl ?_
    refine ⟨_, rfl, _, _, rfl, rfl, ?_⟩
    refine ⟨_, _, .inl rfl, .inl rfl, ?_⟩
    refine opw_eqD (n := 1) hr.units (okD_intsT ms) (okD_intsT ms') (by decide) ?_
    rw [eqD_intsT]
    refine ⟨_, rfl, fun hc => ?_, fun hc => ?_⟩
    · refine we_one ?_
      refine we_cmp (nomark _) ?_
      refine we_fld 0 R.cls t' ?_
      refine we_var 0 rfl (by walk_at "vis") rfl ?_
      refine ⟨_, _, rfl, rfl, ?_⟩
      refine we_prop R.cls p_error hr ?_
      refine we_var 1 rfl (by walk_at "vis") rfl ?_
      refine ⟨_, rfl, _, _, rfl, rfl, ?_⟩
      refine ⟨_, _, .inl rfl, .inl rfl, ?_⟩
      refine opw_eqI ?_
      refine ⟨_, rfl, ?_⟩
      have h1 : ms = ms' := of_decide_eq_true hc
      subst h1
      have h2 : decide (ms = ms ∧ e = e') = decide (e = e') := by by_cases h : e = e' <;> simp [h]
      rw [h2] at hq
      exact hq
    · refine ⟨_, rfl, ?_⟩
      have h1 : ¬ ms = ms' := of_decide_eq_false hc
      have h2 : decide (ms = ms' ∧ e = e') = false := by simp [h1]
      rw [h2] at hq
      exact hq
  · refine we_isiC rfl B.isinstance bt_isinstance rfl m_Ruler ?_
    refine we_var 1 rfl (by walk_at "vis") rfl ?_
    refine ⟨_, _, _, .inl rfl, rfl, R.tupN, ?_⟩
    exact ⟨_, rfl, fun hd => absurd (show false = true from hd) Bool.false_ne_true, fun _ => ⟨_, rfl, hq⟩⟩

theorem GoodM.at0 {most len : Int} {ms : List Int} (h : GoodM most len ms) {m : Int} (e : ms[0]? = some m) : m = 0 := by
  have := h.zero
  rw [List.head?_eq_getElem?, e] at this
  cases this; rfl
theorem GoodM.step {most len : Int} {ms : List Int} (h : GoodM most len ms) {k : Nat} {a b : Int} (e1 : ms[k]? = some a) (e2 : ms[k + 1]? = some b) : a < b := by
  obtain ⟨h1, rfl⟩ := List.getElem?_eq_some_iff.mp e1
  obtain ⟨h2, rfl⟩ := List.getElem?_eq_some_iff.mp e2
  exact List.pairwise_iff_getElem.mp h.asc k (k + 1) h1 h2 (Nat.lt_succ_self k)
theorem ok_Ruler_init {f C : Addr} {fd : FuncData} {k : Nat} {t1 t2 t3 t4 : Tok} (F : Fun K "__init__" "Ruler.__init__" s_Ruler_init f fd) (B : Bn mg) (R : RulC K C) (m_MIN_MARKS : mg "MIN_MARKS" = some (.int 2 t1)) (m_MAX_MARKS : mg "MAX_MARKS" = some (.int 12 t2)) (m_MAX_LENGTH : mg "MAX_LENGTH" = some (.int 300 t3)) (m_MAX_ERROR : mg "MAX_ERROR" = some (.int 9 t4))
    (c_is_number : Cal P w K mg base "is_number" k ["value", "lowest", "highest"] numF) : FnOk P w K mg base CX0 (k + 1) f fd ["self", "marks", "error"] (spI K C rulI) := by
  obtain ⟨q0, s0⟩ := R.s0
  obtain ⟨q1, s1⟩ := R.s1
  have nd := sc_Ruler_init.nd
  refine init2r_ok F sc_Ruler_init R.cls s0 s1 (fun ds ys h => ?_) ((defBody s_Ruler_init).take 3) ((defBody s_Ruler_init).getD 3 (.Pass ⟨0, 0, 0, 0⟩)) ((defBody s_Ruler_init).getD 4 (.Pass ⟨0, 0, 0, 0⟩)) 1 2 rfl (fun cdv A outer s H E hr => ?_)
  · obtain ⟨ms, e, rfl, _⟩ := rulI_get h; rfl
  refine ⟨SlX.ps_sl (pe_var rfl (by walk_at "vis")) (pe_var rfl (by walk_at "vis")), SlX.ps_sl (pe_var rfl (by walk_at "vis")) (pe_var rfl (by walk_at "vis")), fun a ds ys G h => ?_⟩
  obtain ⟨ms, e, rfl, hg, he, rfl⟩ := rulI_get h
  have hfew := hg.few
  have htwo := hg.two
  refine wb_cons (ws_forET (is := [3, 4]) PassesOwn.never rfl (by rfl) B.enumerate ?_)
  refine we_var 1 rfl (by walk_at "vis") rfl ?_
  refine ⟨_, _, rfl, fun j r G' => G' = G ∧ ∃ z3 z4 z5, r = [.sh (.adr a), .sh (.tup (ms.map D.int)), .sh (.int e), z3, z4, z5], ⟨rfl, .no, .no, .no, rfl⟩, fun j d r3 G3 hj ⟨h1, z3, z4, z5, h2⟩ => ?_, fun r3 G3 ⟨h1, z3, z4, z5, h2⟩ => ?_⟩
  · subst h1 h2
    obtain ⟨m, hjm, rfl⟩ := ints_get hj
    have hjl : j < ms.length := (List.getElem?_eq_some_iff.mp hjm).1
    have hmle := hg.le m (List.mem_of_getElem? hjm)
    refine wg_pair 3 4 rfl nd rfl rfl (by walk_at "vis") (by walk_at "vis") (by decide) (by decide) (lt_ rfl) (lt_ rfl) ?_
    refine wb_cut (fun r G' => G' = G3 ∧ ∃ lo : Int, lo ≤ m ∧ r = [.sh (.adr a), .sh (.tup (ms.map D.int)), .sh (.int e), .sh (.int (j : Nat)), .sh (.int m), .sh (.int lo)]) (ws_set 5 nd rfl (.inl rfl) ?_) ?_
    · refine we_ifExp ?_
      refine wt_cmp (nomark _) ?_
      refine we_var 3 rfl (by walk_at "vis") rfl ?_
      refine we_int ?_
      refine ⟨_, _, .inl rfl, .inl rfl, ?_⟩
      refine opw_eqI ?_
      refine ⟨_, rfl, fun hc => ?_, fun hc => ?_⟩
      · refine we_int ?_
        exact ⟨lt_ rfl, _, rfl, rfl, 0, hmle.1, rfl⟩
      · have hj0 : ((j : Nat) : Int) ≠ 0 := of_decide_eq_false hc
        obtain ⟨i, rfl⟩ : ∃ i, j = i + 1 := ⟨j - 1, by omega⟩
        have hi : ms[i]? = some ms[i] := List.getElem?_eq_getElem (by omega)
        refine we_bin ?_
        refine we_ix (fun _ _ => rfl) ?_
        refine we_var 1 rfl (by walk_at "vis") rfl ?_
        refine we_bin ?_
        refine we_var 3 rfl (by walk_at "vis") rfl ?_
        refine we_int ?_
        refine ⟨_, _, .inl rfl, .inl rfl, ?_⟩
        refine opw_sub ?_
        have ei : ((i + 1 : Nat) : Int) - 1 = ((i : Nat) : Int) := by omega
        rw [ei]
        refine ⟨_, _, .inl rfl, .inl rfl, ?_⟩
        refine ixw_tup (atD_nat (by rw [List.getElem?_map, hi]; rfl)) ?_
        refine we_int ?_
        refine ⟨_, _, .inl rfl, .inl rfl, ?_⟩
        refine opw_add ?_
        have := hg.step hi hjm
        exact ⟨lt_ rfl, _, rfl, rfl, ms[i] + 1, by omega, rfl⟩
    rintro r4 G4 ⟨h1, lo, hlo, h2⟩
    subst h1 h2
    refine wb_cons (ws_if ?_)
    refine wt_w (ww_or ?_)
    refine wt_cmp (nomark _) ?_
    refine we_var 3 rfl (by walk_at "vis") rfl ?_
    refine we_globI rfl m_MAX_MARKS ?_
    refine ⟨_, _, .inl rfl, .inl rfl, ?_⟩
    refine opw_eqI ?_
    refine ⟨_, rfl, fun _ => ?_, fun hc => ?_⟩
    · refine ww_or1 ?_
      refine wt_not ?_
      refine wt_val (fun _ => rfl) ?_
      refine we_cal c_is_number hr rfl ?_
      refine wa_cons ?_
      refine we_var 4 rfl (by walk_at "vis") rfl ?_
      refine ⟨_, _, rfl, ?_⟩
      refine wa_cons ?_
      refine we_var 5 rfl (by walk_at "vis") rfl ?_
      refine ⟨_, _, rfl, ?_⟩
      refine wa_cons ?_
      have fin : ∀ hi : Int, m ≤ hi → numB lo hi (.int m) = true := fun hi h => by
        show (decide (lo ≤ m) && decide (m ≤ hi)) = true
        simp [hlo, h]
      refine we_ifExp ?_
      refine wt_cmp (nomark _) ?_
      refine we_var 3 rfl (by walk_at "vis") rfl ?_
      refine we_int ?_
      refine ⟨_, _, .inl rfl, .inl rfl, ?_⟩
      refine opw_eqI ?_
      refine ⟨_, rfl, fun hc => ?_, fun hc => ?_⟩
      · have hj0 : ((j : Nat) : Int) = 0 := of_decide_eq_true hc
        obtain rfl : j = 0 := by omega
        have hm0 := hg.at0 hjm
        refine we_int ?_
        refine ⟨_, _, rfl, ?_⟩
        refine wa_nil ?_
        refine ⟨_, lo, 0, rfl, rfl, _, rfl, ?_⟩
        rw [fin 0 (by omega)]
        refine ⟨fun hd => absurd (show false = true from hd) Bool.false_ne_true, fun _ => ?_⟩
        exact wb_nil (wb_nil ⟨rfl, _, _, _, rfl⟩)
      · refine we_globI rfl m_MAX_LENGTH ?_
        refine ⟨_, _, rfl, ?_⟩
        refine wa_nil ?_
        refine ⟨_, lo, 300, rfl, rfl, _, rfl, ?_⟩
        rw [fin 300 hmle.2]
        refine ⟨fun hd => absurd (show false = true from hd) Bool.false_ne_true, fun _ => ?_⟩
        exact wb_nil (wb_nil ⟨rfl, _, _, _, rfl⟩)
    · have : ((j : Nat) : Int) = 12 := of_decide_eq_true hc
      omega
  · subst h1 h2
    refine wb_cons (ws_if ?_)
    refine wt_cmp (nomark _) ?_
    refine we_b1 (x := "len") (id := "len") rfl B.len bt_len ?_
    refine we_var 1 rfl (by walk_at "vis") rfl ?_
    refine ⟨_, .inl rfl, ?_⟩
    refine c_lenT ?_
    refine we_globI rfl m_MIN_MARKS ?_
    refine ⟨_, _, .inl rfl, .inl rfl, ?_⟩
    refine opw_lt ?_
    refine ⟨_, rfl, fun hc => ?_, fun _ => ?_⟩
    · have : (((ms.map D.int).length : Nat) : Int) < 2 := of_decide_eq_true hc
      rw [List.length_map] at this
      omega
    refine wb_nil ?_
    refine wb_cons (ws_if ?_)
    refine wt_not ?_
    refine wt_val (fun _ => rfl) ?_
    refine we_cal c_is_number hr rfl ?_
    refine wa_cons ?_
    refine we_var 2 rfl (by walk_at "vis") rfl ?_
    refine ⟨_, _, rfl, ?_⟩
    refine wa_cons ?_
    refine we_int ?_
    refine ⟨_, _, rfl, ?_⟩
    refine wa_cons ?_
    refine we_globI rfl m_MAX_ERROR ?_
    refine ⟨_, _, rfl, ?_⟩
    refine wa_nil ?_
    refine ⟨_, 0, 9, rfl, rfl, _, rfl, ?_⟩
    have fin : numB 0 9 (.int e) = true := by
      show (decide (0 ≤ e) && decide (e ≤ 9)) = true
      simp [he.1, he.2]
    rw [fin]
    refine ⟨fun hd => absurd (show false = true from hd) Bool.false_ne_true, fun _ => ?_⟩
    exact wb_nil (wb_nil ⟨rfl, rfl, _, _, rfl, rfl, rfl⟩)

def tndF (C : Addr) : FSp := fun ds G post => ∃ ms e, ds = [rulD C ms e] ∧ GoodM 12 300 ms ∧ (0 ≤ e ∧ e ≤ 9) ∧ post (.sh (rulD C (turnM ms) e)) G
theorem ok_Ruler_turned {f C : Addr} {fd : FuncData} {k : Nat} (F : Fun K "turned" "Ruler.turned" s_Ruler_turned f fd) (R : RulC K C) (c_mirrored : Cal P w K mg base "mirrored" k ["marks"] turnF) (M : MakeD P w K mg base "Ruler" C k ["self", "marks", "error"] rulI) : FnOk P w K mg base CX0 (k + 2) f fd ["self"] (spD K (tndF C)) := by
  refine def_ok F sc_Ruler_turned (fun ds G post h => ?_) (fun cdv A outer s H E hr ds G post h => ?_)
  · obtain ⟨ms, e, rfl, _⟩ := h; rfl
  obtain ⟨ms, e, rfl, hg, he, hq⟩ := h
  have hfew := hg.few
  obtain ⟨p, t⟩ := R.s0
  obtain ⟨p', t'⟩ := R.s1
  refine wb_cons (ws_ret ?_)
  refine we_make M hr rfl ?_
  refine wa_cons ?_
  refine we_cal c_mirrored hr rfl ?_
  refine wa_cons ?_
  refine we_fld 1 R.cls t ?_
  refine we_var 0 rfl (by walk_at "vis") rfl ?_
  refine ⟨_, _, rfl, rfl, ?_⟩
  refine ⟨_, _, rfl, ?_⟩
  refine wa_nil ?_
  refine ⟨ms, rfl, ⟨hg.ne, by omega⟩, ?_⟩
  refine ⟨_, _, rfl, ?_⟩
  refine wa_cons ?_
  refine we_fld 0 R.cls t' ?_
  refine we_var 0 rfl (by walk_at "vis") rfl ?_
  refine ⟨_, _, rfl, rfl, ?_⟩
  refine ⟨_, _, rfl, ?_⟩
  refine wa_nil ?_
  exact ⟨_, rulI_of hg.turn he.1 he.2, _, rfl, hq⟩

theorem snoc_ind {α : Type} {Pr : List α → Prop} (h0 : Pr []) (hs : ∀ xs x, Pr xs → Pr (xs ++ [x])) (xs : List α) : Pr xs := by
  have key : ∀ ys : List α, Pr ys.reverse := by
    intro ys
    induction ys with
    | nil => exact h0
    | cons y ys ih => rw [List.reverse_cons]; exact hs _ _ ih
  have := key xs.reverse
  rw [List.reverse_reverse] at this
  exact this
/-! ### marks that are added -/
def lastI (ms : List Int) : Int := ms.getLast?.getD 0
def freeM (ms : List Int) : List Int := (rgI 1 (lastI ms)).filter fun m => !decide (m ∈ ms)
def spw (ms xs : List Int) : List Int := isort (spreadL (isort (ms ++ xs)))
def cntM (ms : List Int) (x : Int) : Nat := (dedI (spw ms [x])).length
def repM (ms : List Int) : List Int := (isort (dedI (isort (spreadL ms)))).filter fun s => decide (1 < (isort (spreadL ms)).count s)
def bstep (f : Int → Nat) (b : Int × Option Int) (x : Int) : Int × Option Int := if b.1 < (f x : Int) then (f x, some x) else b
def bestI (f : Int → Nat) (xs : List Int) : Int × Option Int := xs.foldl (bstep f) (-1, none)
def optD : Option Int → D
  | none => .non
  | some x => .int x
theorem bestI_inv (f : Int → Nat) : ∀ (xs : List Int), (xs = [] ∧ bestI f xs = (-1, none)) ∨ ∃ (j : Nat) (x : Int), xs[j]? = some x ∧ bestI f xs = ((f x : Int), some x) ∧ (∀ y ∈ xs, f y ≤ f x) ∧ ∀ (i : Nat) (y : Int), i < j → xs[i]? = some y → f y < f x := by
  refine snoc_ind (.inl ⟨rfl, rfl⟩) fun xs z ih => ?_
  · right
    have e : bestI f (xs ++ [z]) = bstep f (bestI f xs) z := by unfold bestI; rw [List.foldl_append]; rfl
    rcases ih with ⟨h1, h2⟩ | ⟨j, x, h1, h2, h3, h4⟩
    · subst h1
      refine ⟨0, z, rfl, ?_, fun y hy => ?_, fun i y hi => absurd hi (Nat.not_lt_zero i)⟩
      · rw [e, h2]; unfold bstep; rw [if_pos (by show (-1 : Int) < _; omega)]
      · rw [List.nil_append] at hy; cases List.mem_singleton.mp hy; exact Nat.le_refl _
    · have hj : j < xs.length := (List.getElem?_eq_some_iff.mp h1).1
      by_cases hz : f x < f z
      · refine ⟨xs.length, z, by simp, ?_, fun y hy => ?_, fun i y hi hy => ?_⟩
        · rw [e, h2]; unfold bstep; rw [if_pos (by show ((f x : Nat) : Int) < _; omega)]
        · rcases List.mem_append.mp hy with q | q
          · have := h3 y q; omega
          · cases List.mem_singleton.mp q; exact Nat.le_refl _
        · rw [List.getElem?_append_left hi] at hy
          have := h3 y (List.mem_of_getElem? hy); omega
      · refine ⟨j, x, by rw [List.getElem?_append_left hj]; exact h1, ?_, fun y hy => ?_, fun i y hi hy => ?_⟩
        · rw [e, h2]; unfold bstep; rw [if_neg (by show ¬ ((f x : Nat) : Int) < _; omega)]
        · rcases List.mem_append.mp hy with q | q
          · exact h3 y q
          · cases List.mem_singleton.mp q; omega
        · rw [List.getElem?_append_left (by omega)] at hy
          exact h4 i y hi hy
/-- the place of the greatest count -/
theorem bestI_at {f : Int → Nat} {xs : List Int} {m : Int} (hne : xs ≠ []) (hm : m ∈ xs.map fun x => ((f x : Nat) : Int)) (hge : ∀ y ∈ xs.map (fun x => ((f x : Nat) : Int)), y ≤ m) :
    ∃ (j : Nat) (x : Int), xs[j]? = some x ∧ (bestI f xs).2 = some x ∧ (xs.map fun x => ((f x : Nat) : Int))[j]? = some m ∧ ∀ i, i < j → (xs.map fun x => ((f x : Nat) : Int))[i]? ≠ some m := by
  rcases bestI_inv f xs with ⟨h1, _⟩ | ⟨j, x, h1, h2, h3, h4⟩
  · exact absurd h1 hne
  · have hmx : m = (f x : Int) := by
      obtain ⟨y, hy, rfl⟩ := List.mem_map.mp hm
      have a := h3 y hy
      have b := hge (f x) (List.mem_map.mpr ⟨x, List.mem_of_getElem? h1, rfl⟩)
      omega
    refine ⟨j, x, h1, by rw [h2], by rw [List.getElem?_map, h1, hmx]; rfl, fun i hi z => ?_⟩
    rw [List.getElem?_map] at z
    cases e : xs[i]? with
    | none => rw [e] at z; cases z
    | some y =>
      rw [e] at z
      have hz : ((f y : Nat) : Int) = m := Option.some.inj z
      have := h4 i y hi e
      omega
theorem filter_snoc {α : Type} (p : α → Bool) {xs : List α} {k : Nat} {x : α} (h : xs[k]? = some x) : (xs.take (k + 1)).filter p = (xs.take k).filter p ++ if p x then [x] else [] := by
  rw [take_snoc h, List.filter_append]
  by_cases hp : p x = true
  · rw [if_pos hp, List.filter_cons_of_pos hp]; rfl
  · rw [if_neg hp, List.filter_cons_of_neg hp]; rfl
theorem rgI_get {a b : Int} {k : Nat} (h : a + (k : Int) < b) : (rgI a b)[k]? = some (a + (k : Nat)) := by
  unfold rgI
  rw [List.getElem?_map, List.getElem?_range (by omega)]; rfl
theorem spw_len (ms xs : List Int) : (spw ms xs).length ≤ (ms.length + xs.length) * (ms.length + xs.length) := by
  unfold spw
  rw [isort_length]
  have := spread_len (isort (ms ++ xs))
  rw [isort_length, List.length_append] at this
  exact this
theorem spread_len300 {ms : List Int} (h : ms.length ≤ 300) : (isort (spreadL ms)).length ≤ 90000 := by
  rw [isort_length]
  have h1 := spread_len ms
  have h2 : ms.length * ms.length ≤ 300 * 300 := Nat.mul_le_mul h h
  omega
def spwF : FSp := fun ds G post => ∃ ms xs : List Int, (ds = [.tup (ms.map D.int), .lst (xs.map D.int)] ∨ ds = [.tup (ms.map D.int), .tup (xs.map D.int)]) ∧ ms.length + xs.length ≤ 300 ∧ post (.fr (dicD (tdic (spw ms xs)))) G
def freeF (C : Addr) : FSp := fun ds G post => ∃ (ms : List Int) (e : Int), ds = [rulD C ms e] ∧ GoodM 12 300 ms ∧ post (.fr (.lst ((freeM ms).map D.int))) G
def bestF (C : Addr) : FSp := fun ds G post => ∃ (ms : List Int) (e : Int), ds = [rulD C ms e] ∧ GoodM 12 300 ms ∧ post (.sh (optD (bestI (cntM ms) (freeM ms)).2)) G
def repF (C : Addr) : FSp := fun ds G post => ∃ (ms : List Int) (e : Int), ds = [rulD C ms e] ∧ GoodM 12 300 ms ∧ post (.fr (.lst ((repM ms).map D.int))) G
def sparseF (C : Addr) : FSp := fun ds G post => ∃ (ms : List Int) (e : Int), ds = [rulD C ms e] ∧ GoodM 12 300 ms ∧ post (.sh (.bl (decide (repM ms = [])))) G
/-- a drawn ruler -/
def drawF (C : Addr) : FSp := fun ds G post => ∃ (G0 : Hp) (b g : Addr) (most len : Int), ds = [.adr b, .int most, .int len] ∧ Bx G0 b g G ∧ (2 ≤ most ∧ most ≤ 12) ∧ (1 ≤ len ∧ len ≤ 300) ∧ ∀ ms e G', GoodM most len ms → 0 ≤ e → e ≤ 3 → Bx G0 b g G' → post (.sh (rulD C ms e)) G'
theorem GoodM.wide {most len : Int} {ms : List Int} (h : GoodM most len ms) (h1 : most ≤ 12) (h2 : len ≤ 300) : GoodM 12 300 ms := ⟨h.asc, h.zero, fun m hm => ⟨(h.le m hm).1, by have := (h.le m hm).2; omega⟩, h.two, by have := h.few; omega⟩

theorem ok_law_ruler {f C : Addr} {fd : FuncData} {k : Nat} (F : Fun K "_law_ruler" "_law_ruler" s_law_ruler f fd) (c_law_marks : Cal P w K mg base "_law_marks" k ["_law_box", "_law_most", "_law_length"] marksF) (c_law_take : Cal P w K mg base "_law_take" k ["_law_box", "_law_many"] takeF) (M_Ruler : MakeD P w K mg base "Ruler" C k ["self", "marks", "error"] rulI) : FnOk P w K mg base CX0 (k + 2) f fd ["_law_box", "_law_most", "_law_length"] (spD K (drawF C)) := by
  refine def_ok F sc_law_ruler (fun ds G post h => ?_) (fun cdv A outer s H E hr ds G post h => ?_)
  · obtain ⟨G0, b, g, most, len, rfl, _⟩ := h; rfl
  obtain ⟨G0, b, g, most, len, rfl, hb, ⟨hm0, hm1⟩, ⟨hl0, hl1⟩, hq⟩ := h
  have nd := sc_law_ruler.nd
  -- 108
  refine wb_cons (ws_ret ?_)
  refine we_make M_Ruler hr rfl ?_
  refine wa_cons ?_
  refine we_cal c_law_marks hr rfl ?_
  refine wa_cons ?_
  refine we_var 0 rfl (by walk_at "vis") rfl ?_
  refine ⟨_, _, rfl, ?_⟩
  refine wa_cons ?_
  refine we_var 1 rfl (by walk_at "vis") rfl ?_
  refine ⟨_, _, rfl, ?_⟩
  refine wa_cons ?_
  refine we_var 2 rfl (by walk_at "vis") rfl ?_
  refine ⟨_, _, rfl, ?_⟩
  refine wa_nil ?_
  refine ⟨G0, b, g, most, len, rfl, hb, ⟨by omega, by omega⟩, ⟨by omega, by omega⟩, fun ms G1 hg hb1 => ?_⟩
  refine ⟨_, _, rfl, ?_⟩
  refine wa_cons ?_
  refine we_cal c_law_take hr rfl ?_
  refine wa_cons ?_
  refine we_var 0 rfl (by walk_at "vis") rfl ?_
  refine ⟨_, _, rfl, ?_⟩
  refine wa_cons ?_
  refine we_int ?_
  refine ⟨_, _, rfl, ?_⟩
  refine wa_nil ?_
  refine ⟨G0, b, g, 4, rfl, hb1, ⟨by decide, by decide⟩, fun v G2 hv0 hv1 hb2 => ?_⟩
  refine ⟨_, _, rfl, ?_⟩
  refine wa_nil ?_
  refine ⟨_, rulI_of (hg.wide (by omega) (by omega)) hv0 (by omega), ?_⟩
  exact ⟨_, rfl, hq ms v G2 hg hv0 (by omega) hb2⟩

/-! ### ascending lists without repeats, by their members -/
theorem asc_ext : ∀ {xs ys : List Int}, xs.Pairwise (· < ·) → ys.Pairwise (· < ·) → (∀ z, z ∈ xs ↔ z ∈ ys) → xs = ys
  | [], [], _, _, _ => rfl
  | [], y :: ys, _, _, h => absurd ((h y).mpr List.mem_cons_self) (by simp)
  | x :: xs, [], _, _, h => absurd ((h x).mp List.mem_cons_self) (by simp)
  | x :: xs, y :: ys, hx, hy, h => by
    obtain ⟨h1, h2⟩ := List.pairwise_cons.mp hx
    obtain ⟨k1, k2⟩ := List.pairwise_cons.mp hy
    have e : x = y := by
      rcases List.mem_cons.mp ((h x).mp List.mem_cons_self) with z | z
      · exact z
      · rcases List.mem_cons.mp ((h y).mpr List.mem_cons_self) with q | q
        · exact q.symm
        · have := k1 x z
          have := h1 y q
          omega
    subst e
    rw [asc_ext h2 k2 fun z => ?_]
    constructor
    · intro hz
      rcases List.mem_cons.mp ((h z).mp (List.mem_cons_of_mem _ hz)) with q | q
      · subst q; exact absurd (h1 z hz) (by omega)
      · exact q
    · intro hz
      rcases List.mem_cons.mp ((h z).mpr (List.mem_cons_of_mem _ hz)) with q | q
      · subst q; exact absurd (k1 z hz) (by omega)
      · exact q
def dstep (acc : List Int) (n : Int) : List Int := if n ∈ acc then acc else acc ++ [n]
theorem mem_dstep (z : Int) : ∀ (xs acc : List Int), z ∈ xs.foldl dstep acc ↔ z ∈ acc ∨ z ∈ xs
  | [], acc => by simp
  | x :: xs, acc => by
    rw [List.foldl_cons, mem_dstep z xs]
    unfold dstep
    split
    · rename_i h
      constructor
      · rintro (q | q)
        · exact .inl q
        · exact .inr (List.mem_cons_of_mem _ q)
      · rintro (q | q)
        · exact .inl q
        · rcases List.mem_cons.mp q with e | q
          · subst e; exact .inl h
          · exact .inr q
    · simp only [List.mem_append, List.mem_cons, List.not_mem_nil, or_false]
      constructor
      · rintro ((q | q) | q)
        · exact .inl q
        · exact .inr (.inl q)
        · exact .inr (.inr q)
      · rintro (q | q | q)
        · exact .inl (.inl q)
        · exact .inl (.inr q)
        · exact .inr q
theorem nodup_dstep : ∀ (xs acc : List Int), acc.Nodup → (xs.foldl dstep acc).Nodup
  | [], _, h => h
  | x :: xs, acc, h => by
    rw [List.foldl_cons]
    refine nodup_dstep xs _ ?_
    unfold dstep
    split
    · exact h
    · rename_i hx
      rw [List.nodup_append]
      refine ⟨h, by simp, fun a ha b hb => ?_⟩
      cases List.mem_singleton.mp hb
      exact fun e => hx (e ▸ ha)
theorem mem_dedI {z : Int} {ns : List Int} : z ∈ dedI ns ↔ z ∈ ns := (mem_dstep z ns []).trans (by simp)
theorem nodup_dedI (ns : List Int) : (dedI ns).Nodup := nodup_dstep ns [] List.nodup_nil
theorem mem_isort {z : Int} {ns : List Int} : z ∈ isort ns ↔ z ∈ ns := (isort_perm ns).mem_iff
theorem asc_ded (ns : List Int) : (isort (dedI ns)).Pairwise (· < ·) := asc_of (nodup_dedI ns)
theorem mem_ded {z : Int} {ns : List Int} : z ∈ isort (dedI ns) ↔ z ∈ ns := mem_isort.trans mem_dedI
/-- the distances of an ascending list -/
theorem mem_spread {z : Int} : ∀ {ms : List Int}, ms.Pairwise (· < ·) → (z ∈ spreadL ms ↔ ∃ x ∈ ms, ∃ y ∈ ms, x < y ∧ z = y - x)
  | [], _ => by simp [spreadL]
  | m :: r, h => by
    obtain ⟨h1, h2⟩ := List.pairwise_cons.mp h
    rw [spreadL, List.mem_append, List.mem_map, mem_spread h2]
    constructor
    · rintro (⟨o, ho, rfl⟩ | ⟨x, hx, y, hy, hlt, rfl⟩)
      · exact ⟨m, List.mem_cons_self, o, List.mem_cons_of_mem _ ho, h1 o ho, rfl⟩
      · exact ⟨x, List.mem_cons_of_mem _ hx, y, List.mem_cons_of_mem _ hy, hlt, rfl⟩
    · rintro ⟨x, hx, y, hy, hlt, rfl⟩
      rcases List.mem_cons.mp hx with ex | hx'
      · rcases List.mem_cons.mp hy with ey | hy'
        · omega
        · exact .inl ⟨y, hy', by rw [ex]⟩
      · rcases List.mem_cons.mp hy with ey | hy'
        · have := h1 x hx'; omega
        · exact .inr ⟨x, hx', y, hy', hlt, rfl⟩
def spanM (ms : List Int) : List Int := isort (dedI (isort (spreadL ms)))
theorem asc_spanM (ms : List Int) : (spanM ms).Pairwise (· < ·) := asc_ded _
theorem mem_spanM {z : Int} {ms : List Int} (h : ms.Pairwise (· < ·)) : z ∈ spanM ms ↔ ∃ x ∈ ms, ∃ y ∈ ms, x < y ∧ z = y - x := mem_ded.trans (mem_isort.trans (mem_spread h))
/-- both rulers' marks, the keys of the dict -/
def uniI (A B : List Int) : List Int := (dedI B).foldl dstep (dedI A)
theorem mem_uniI {z : Int} {A B : List Int} : z ∈ uniI A B ↔ z ∈ A ∨ z ∈ B := (mem_dstep z _ _).trans (or_congr mem_dedI mem_dedI)
theorem nodup_uniI (A B : List Int) : (uniI A B).Nodup := nodup_dstep _ _ (nodup_dedI A)
theorem len_dstep : ∀ (xs acc : List Int), (xs.foldl dstep acc).length ≤ acc.length + xs.length
  | [], acc => Nat.le_refl _
  | x :: xs, acc => by
    rw [List.foldl_cons, List.length_cons]
    refine Nat.le_trans (len_dstep xs _) ?_
    unfold dstep
    split
    · omega
    · rw [List.length_append, List.length_singleton]; omega
theorem uniI_len (A B : List Int) : (uniI A B).length ≤ A.length + B.length := by
  refine Nat.le_trans (len_dstep _ _) ?_
  have h1 := dedI_len A
  have h2 := dedI_len B
  omega
def jsM (A B : List Int) (s : Int) : List Int := spanM (isort (uniI A (B.map fun m => m + s)))
theorem asc_js (A B : List Int) (s : Int) : (jsM A B s).Pairwise (· < ·) := asc_spanM _
def Dst (U : Int → Prop) (z : Int) : Prop := ∃ x, U x ∧ ∃ y, U y ∧ x < y ∧ z = y - x
def UU (A B : List Int) (s : Int) (x : Int) : Prop := x ∈ A ∨ ∃ m ∈ B, x = m + s
theorem mem_js {z : Int} {A B : List Int} {s : Int} : z ∈ jsM A B s ↔ Dst (UU A B s) z := by
  unfold jsM
  rw [mem_spanM (asc_of (nodup_uniI _ _))]
  have hm : ∀ x, x ∈ isort (uniI A (B.map fun m => m + s)) ↔ UU A B s x := fun x => by
    rw [mem_isort, mem_uniI, List.mem_map]
    unfold UU
    constructor
    · rintro (q | ⟨m, hm, rfl⟩)
      · exact .inl q
      · exact .inr ⟨m, hm, rfl⟩
    · rintro (q | ⟨m, hm, rfl⟩)
      · exact .inl q
      · exact .inr ⟨m, hm, rfl⟩
  unfold Dst
  constructor
  · rintro ⟨x, hx, y, hy, h1, h2⟩
    exact ⟨x, (hm x).mp hx, y, (hm y).mp hy, h1, h2⟩
  · rintro ⟨x, hx, y, hy, h1, h2⟩
    exact ⟨x, (hm x).mpr hx, y, (hm y).mpr hy, h1, h2⟩
theorem js_eq {A B A' B' : List Int} {s s' : Int} (h : ∀ z, Dst (UU A B s) z ↔ Dst (UU A' B' s') z) : jsM A B s = jsM A' B' s' := asc_ext (asc_js _ _ _) (asc_js _ _ _) fun z => mem_js.trans ((h z).trans mem_js.symm)
/-- marks moved, or turned, keep their distances -/
theorem Dst.move {U V : Int → Prop} (c : Int) (h : ∀ x, U x ↔ V (x + c)) (z : Int) : Dst U z ↔ Dst V z := by
  constructor
  · rintro ⟨x, hx, y, hy, h1, rfl⟩
    exact ⟨x + c, (h x).mp hx, y + c, (h y).mp hy, by omega, by omega⟩
  · rintro ⟨x, hx, y, hy, h1, rfl⟩
    exact ⟨x - c, (h _).mpr (by rw [Int.sub_add_cancel]; exact hx), y - c, (h _).mpr (by rw [Int.sub_add_cancel]; exact hy), by omega, by omega⟩
theorem Dst.turn {U V : Int → Prop} (c : Int) (h : ∀ x, U x ↔ V (c - x)) (z : Int) : Dst U z ↔ Dst V z := by
  have hc : ∀ x, c - (c - x) = x := fun x => by omega
  constructor
  · rintro ⟨x, hx, y, hy, h1, rfl⟩
    exact ⟨c - y, (h y).mp hy, c - x, (h x).mp hx, by omega, by omega⟩
  · rintro ⟨x, hx, y, hy, h1, rfl⟩
    exact ⟨c - y, (h _).mpr (by rw [hc]; exact hy), c - x, (h _).mpr (by rw [hc]; exact hx), by omega, by omega⟩
theorem js_swap (A B : List Int) (s : Int) : jsM B A (0 - s) = jsM A B s := js_eq (Dst.move s fun x => by
  unfold UU
  constructor
  · rintro (q | ⟨m, hm, rfl⟩)
    · exact .inr ⟨x, q, rfl⟩
    · exact .inl (by rw [show m + (0 - s) + s = m by omega]; exact hm)
  · rintro (q | ⟨m, hm, e⟩)
    · exact .inr ⟨x + s, q, by omega⟩
    · exact .inl (by rw [show x = m by omega]; exact hm))
theorem mem_turnM {x : Int} {ms : List Int} : x ∈ turnM ms ↔ lastI ms - x ∈ ms := by
  unfold turnM
  rw [List.mem_map]
  constructor
  · rintro ⟨m, hm, rfl⟩
    have : lastI ms - (ms.getLast?.getD 0 - m) = m := by unfold lastI; omega
    rw [this]; exact List.mem_reverse.mp hm
  · intro h
    exact ⟨_, List.mem_reverse.mpr h, by unfold lastI; omega⟩
theorem js_turn (A B : List Int) (s : Int) : jsM (turnM A) (turnM B) (lastI A - lastI B - s) = jsM A B s := js_eq (Dst.turn (lastI A) fun x => by
  unfold UU
  constructor
  · rintro (q | ⟨m, hm, rfl⟩)
    · exact .inl (mem_turnM.mp q)
    · exact .inr ⟨_, mem_turnM.mp hm, by omega⟩
  · rintro (q | ⟨m, hm, e⟩)
    · exact .inl (mem_turnM.mpr q)
    · exact .inr ⟨lastI B - m, mem_turnM.mpr (by rw [show lastI B - (lastI B - m) = m by omega]; exact hm), by omega⟩)
theorem span_sub {A B : List Int} {s z : Int} (hA : A.Pairwise (· < ·)) (hB : B.Pairwise (· < ·)) (h : z ∈ spanM A ++ spanM B) : z ∈ jsM A B s := by
  rw [mem_js]
  rcases List.mem_append.mp h with q | q
  · obtain ⟨x, hx, y, hy, h1, h2⟩ := (mem_spanM hA).mp q
    exact ⟨x, .inl hx, y, .inl hy, h1, h2⟩
  · obtain ⟨x, hx, y, hy, h1, h2⟩ := (mem_spanM hB).mp q
    exact ⟨x + s, .inr ⟨x, hx, rfl⟩, y + s, .inr ⟨y, hy, rfl⟩, by omega, by omega⟩
/-- the distances across -/
def crossI (A : List Int) (s m : Int) : List Int := (A.filter fun o => !decide (o = m + s)).map fun o => ((m + s - o).natAbs : Int)
def crossM (A B : List Int) (s : Int) : List Int := B.flatMap (crossI A s)
theorem js_cross {A B : List Int} {s : Int} (hA : A.Pairwise (· < ·)) (hB : B.Pairwise (· < ·)) : jsM A B s = isort (dedI (spanM A ++ spanM B ++ crossM A B s)) := by
  refine asc_ext (asc_js _ _ _) (asc_ded _) fun z => ?_
  rw [mem_ded, List.mem_append]
  constructor
  · intro h
    obtain ⟨x, hx, y, hy, h1, rfl⟩ := mem_js.mp h
    unfold UU at hx hy
    rcases hx with hx | ⟨m, hm, rfl⟩
    · rcases hy with hy | ⟨n, hn, rfl⟩
      · exact .inl (List.mem_append_left _ ((mem_spanM hA).mpr ⟨x, hx, y, hy, h1, rfl⟩))
      · refine .inr (List.mem_flatMap.mpr ⟨n, hn, List.mem_map.mpr ⟨x, List.mem_filter.mpr ⟨hx, ?_⟩, by omega⟩⟩)
        simp; omega
    · rcases hy with hy | ⟨n, hn, rfl⟩
      · refine .inr (List.mem_flatMap.mpr ⟨m, hm, List.mem_map.mpr ⟨y, List.mem_filter.mpr ⟨hy, ?_⟩, by omega⟩⟩)
        simp; omega
      · exact .inl (List.mem_append_right _ ((mem_spanM hB).mpr ⟨m, hm, n, hn, by omega, by omega⟩))
  · rintro (h | h)
    · exact span_sub hA hB h
    · obtain ⟨m, hm, hz⟩ := List.mem_flatMap.mp h
      obtain ⟨o, ho, rfl⟩ := List.mem_map.mp hz
      obtain ⟨ho, hne⟩ := List.mem_filter.mp ho
      have hne' : o ≠ m + s := by simpa using hne
      rw [mem_js]
      rcases Int.lt_or_gt_of_ne hne' with q | q
      · exact ⟨o, .inl ho, m + s, .inr ⟨m, hm, rfl⟩, q, by omega⟩
      · exact ⟨m + s, .inr ⟨m, hm, rfl⟩, o, .inl ho, q, by omega⟩
theorem js_alone {A : List Int} (hA : A.Pairwise (· < ·)) : jsM A A 0 = spanM A := asc_ext (asc_js _ _ _) (asc_spanM _) fun z => by
  rw [mem_js, mem_spanM hA]
  have : ∀ x, UU A A 0 x ↔ x ∈ A := fun x => by
    unfold UU
    constructor
    · rintro (q | ⟨m, hm, rfl⟩)
      · exact q
      · rw [Int.add_zero]; exact hm
    · exact .inl
  unfold Dst
  constructor
  · rintro ⟨x, hx, y, hy, h1, h2⟩
    exact ⟨x, (this x).mp hx, y, (this y).mp hy, h1, h2⟩
  · rintro ⟨x, hx, y, hy, h1, h2⟩
    exact ⟨x, (this x).mpr hx, y, (this y).mpr hy, h1, h2⟩
theorem asc_last {xs : List Int} {m : Int} (h : xs.Pairwise (· < ·)) (hm : m ∈ xs) (hg : ∀ z ∈ xs, z ≤ m) : lastI xs = m := by
  have hne : xs ≠ [] := fun z => by subst z; cases hm
  unfold lastI
  rw [last_of hne]
  have h1 := hg _ (List.getLast_mem hne)
  have key : ∀ (xs : List Int) (hx : xs ≠ []), xs.Pairwise (· < ·) → ∀ m ∈ xs, m ≤ xs.getLast hx := by
    intro xs
    induction xs with
    | nil => intro hx; exact absurd rfl hx
    | cons a as ih =>
      intro hx hp m hm
      obtain ⟨h1, h2⟩ := List.pairwise_cons.mp hp
      by_cases ha : as = []
      · subst ha
        rcases List.mem_cons.mp hm with rfl | z
        · exact Int.le_refl _
        · cases z
      · rw [List.getLast_cons ha]
        rcases List.mem_cons.mp hm with rfl | z
        · exact Int.le_of_lt (h1 _ (List.getLast_mem ha))
        · exact ih ha h2 m z
  have h2 := key xs hne h m hm
  omega

theorem mrg_fold : ∀ (ys ks : List Int), (tkv ys).foldl (fun acc kv => putD acc kv.1 kv.2) (tkv ks) = tkv (ys.foldl dstep ks)
  | [], _ => rfl
  | y :: ys, ks => by
    show (tkv ys).foldl (fun acc kv => putD acc kv.1 kv.2) (putD (tkv ks) (.inl y) (.bl true)) = _
    rw [putD_tkv, mrg_fold ys]; rfl
theorem dstep_ded : ∀ (xs acc : List Int), (∀ x ∈ xs, x ∉ acc) → xs.Nodup → xs.foldl dstep acc = acc ++ xs
  | [], acc, _, _ => by simp
  | x :: xs, acc, h, hn => by
    obtain ⟨h1, h2⟩ := List.nodup_cons.mp hn
    have hx : dstep acc x = acc ++ [x] := if_neg (h x List.mem_cons_self)
    rw [List.foldl_cons, hx, dstep_ded xs _ (fun y hy z => ?_) h2, List.append_assoc]; rfl
    rcases List.mem_append.mp z with q | q
    · exact h y (List.mem_cons_of_mem _ hy) q
    · cases List.mem_singleton.mp q; exact h1 hy
theorem mrg_keys (A B : List Int) : dicD ((tdic B).foldl (fun acc kv => putD acc kv.1 kv.2) ((tdic A).foldl (fun acc kv => putD acc kv.1 kv.2) [])) = .dic ((uniI A B).map Sum.inl) ((uniI A B).map fun _ => D.bl true) := by
  rw [tdic_eq, tdic_eq]
  have e1 : (tkv (dedI A)).foldl (fun acc kv => putD acc kv.1 kv.2) [] = tkv (dedI A) := by
    have := mrg_fold (dedI A) []
    rw [dstep_ded (dedI A) [] (by simp) (nodup_dedI A)] at this
    exact this
  rw [e1, mrg_fold]
  unfold dicD tkv uniI
  rw [List.map_map, List.map_map]; rfl
def spatF (C : Addr) : FSp := fun ds G post => ∃ (A0 B0 : List Int) (e e' sh : Int), ds = [rulD C A0 e, rulD C B0 e', .int sh] ∧ GoodM 12 300 A0 ∧ GoodM 12 300 B0 ∧ post (.fr (.lst ((jsM A0 B0 sh).map D.int))) G
def jointF (C : Addr) : FSp := fun ds G post => ∃ (A0 B0 : List Int) (e e' sh : Int), ds = [rulD C A0 e, rulD C B0 e', .int sh] ∧ GoodM 12 300 A0 ∧ GoodM 12 300 B0 ∧ (-300 ≤ sh ∧ sh ≤ 300) ∧ post (.fr (.lst ((jsM A0 B0 sh).map D.int))) G
def bshF (C : Addr) : FSp := fun ds G post => ∃ (A0 B0 : List Int) (e e' lo hi : Int), ds = [rulD C A0 e, rulD C B0 e', .int lo, .int hi] ∧ GoodM 12 300 A0 ∧ GoodM 12 300 B0 ∧ (-300 ≤ lo ∧ lo ≤ hi ∧ hi ≤ 300) ∧ ∀ v, lo ≤ v → v ≤ hi → (∀ s, lo ≤ s → s ≤ hi → (jsM A0 B0 s).length ≤ (jsM A0 B0 v).length) → (∀ s, lo ≤ s → s < v → (jsM A0 B0 s).length < (jsM A0 B0 v).length) → post (.sh (.int v)) G
theorem ok_spans_at {f C : Addr} {fd : FuncData} {k : Nat} (F : Fun K "spans_at" "spans_at" s_spans_at f fd) (B : Bn mg) (R : RulC K C) (c_spread_of : Cal P w K mg base "spread_of" k ["marks"] spreadB) (p_marks : PropD P w K mg base C "marks" k (getF C 1)) : FnOk P w K mg base CX0 (k + 2) f fd ["one", "other", "shift"] (spD K (spatF C)) := by
  refine def_ok F sc_spans_at (fun ds G post h => ?_) (fun cdv A outer s H E hr ds G post h => ?_)
  · obtain ⟨A0, B0, e, e', sh, rfl, _⟩ := h; rfl
  obtain ⟨A0, B0, e, e', sh, rfl, hA, hB, hq⟩ := h
  have nd := sc_spans_at.nd
  have hA1 := hA.few
  have hB1 := hB.few
  -- 75
  refine wb_cons (ws_set 3 nd rfl (by walk_at "vis") ?_)
  refine we_b1 (x := "sorted") (id := "sorted") rfl B.sorted bt_sorted ?_
  refine we_mrg ?_
  refine we_dcT [("mark", 5)] rfl nd (blkOk_by (by rfl)) ?_
  refine we_prop R.cls p_marks hr ?_
  refine we_var 0 rfl (by walk_at "vis") rfl ?_
  refine ⟨_, rfl, _, _, rfl, rfl, ?_⟩
  refine ⟨_, _, rfl, fun j acc r G' => G' = G ∧ acc = tdic (A0.take j) ∧ r = [.sh (rulD C A0 e), .sh (rulD C B0 e'), .sh (.int sh), .no, .no, .no], ⟨rfl, rfl, rfl⟩, fun j d acc r4 G4 hj ⟨h1, h2, h3⟩ => ?_, fun acc r4 G4 ⟨h1, h2, h3⟩ => ?_⟩
  · subst h1 h2 h3
    obtain ⟨o, hjo, rfl⟩ := ints_get hj
    rintro Y ⟨s1, H1, C1, cl, fp, rfl⟩
    refine wg_name 5 nd rfl (by walk_at "vis") (by decide) (lt_ rfl) ?_
    rintro Y ⟨s1, H1, C1, cl, fp, rfl⟩
    refine we_var 5 rfl (by walk_at "vis") rfl ?_
    refine ⟨.inl o, rfl, ?_⟩
    rintro Y ⟨s1, H1, C1, cl, fp, rfl⟩
    refine we_bl ?_
    refine ⟨_, _, rfl, ?_, rfl, ?_, rfl⟩
    · have := tdic_len (A0.take j)
      rw [List.length_take] at this
      unfold LIM; omega
    · rw [tdic_snoc hjo]
  subst h1 h2 h3
  rw [List.length_map, List.take_length]
  refine ⟨_, _, rfl, by have := tdic_len A0; unfold LIM; omega, ?_⟩
  refine we_dcT [("mark", 5)] rfl nd (blkOk_by (by rfl)) ?_
  refine we_prop R.cls p_marks hr ?_
  refine we_var 1 rfl (by walk_at "vis") rfl ?_
  refine ⟨_, rfl, _, _, rfl, rfl, ?_⟩
  refine ⟨_, _, rfl, fun j acc r G' => G' = G4 ∧ acc = tdic ((B0.map fun m => m + sh).take j) ∧ r = [.sh (rulD C A0 e), .sh (rulD C B0 e'), .sh (.int sh), .no, .no, .no], ⟨rfl, rfl, rfl⟩, fun j d acc r4 G4 hj ⟨h1, h2, h3⟩ => ?_, fun acc r4 G5 ⟨h1, h2, h3⟩ => ?_⟩
  · subst h1 h2 h3
    obtain ⟨o, hjo, rfl⟩ := ints_get hj
    have hjs : (B0.map fun m => m + sh)[j]? = some (o + sh) := by rw [List.getElem?_map, hjo]; rfl
    rintro Y ⟨s1, H1, C1, cl, fp, rfl⟩
    refine wg_name 5 nd rfl (by walk_at "vis") (by decide) (lt_ rfl) ?_
    rintro Y ⟨s1, H1, C1, cl, fp, rfl⟩
    refine we_bin ?_
    refine we_var 5 rfl (by walk_at "vis") rfl ?_
    refine we_var 2 rfl (by walk_at "vis") rfl ?_
    refine ⟨_, _, .inl rfl, .inl rfl, ?_⟩
    refine opw_add ?_
    refine ⟨.inl (o + sh), rfl, ?_⟩
    rintro Y ⟨s1, H1, C1, cl, fp, rfl⟩
    refine we_bl ?_
    refine ⟨_, _, rfl, ?_, rfl, ?_, rfl⟩
    · have := tdic_len ((B0.map fun m => m + sh).take j)
      rw [List.length_take, List.length_map] at this
      unfold LIM; omega
    · rw [tdic_snoc hjs]
  subst h1 h2 h3
  rw [List.length_map, show (B0.map fun m => m + sh).take B0.length = B0.map fun m => m + sh from List.take_of_length_le (by rw [List.length_map]; exact Nat.le_refl _)]
  refine ⟨_, _, rfl, by have := tdic_len (B0.map fun m => m + sh); rw [List.length_map] at this; unfold LIM; omega, ?_⟩
  rw [mrg_keys]
  refine ⟨_, .inl rfl, ?_⟩
  refine c_sortedD rfl ?_
  refine ⟨lt_ rfl, _, rfl, ?_⟩
  -- 76
  refine wb_cons (ws_ret ?_)
  refine we_b1 (x := "sorted") (id := "sorted") rfl B.sorted bt_sorted ?_
  refine we_dcL [("span", 4)] rfl nd (blkOk_by (by rfl)) ?_
  refine we_cal c_spread_of hr rfl ?_
  refine wa_cons ?_
  refine we_var 3 rfl (by walk_at "vis") rfl ?_
  refine ⟨_, _, rfl, ?_⟩
  refine wa_nil ?_
  refine ⟨_, .inr rfl, by rw [isort_length]; have := uniI_len A0 (B0.map fun m => m + sh); rw [List.length_map] at this; omega, ?_⟩
  have hl : (isort (spreadL (isort (uniI A0 (B0.map fun m => m + sh))))).length ≤ 90000 := spread_len300 (by rw [isort_length]; have := uniI_len A0 (B0.map fun m => m + sh); rw [List.length_map] at this; omega)
  change post (.fr (.lst ((isort (dedI (isort (spreadL (isort (uniI A0 (B0.map fun m => m + sh))))))).map D.int))) G5 at hq
  generalize isort (spreadL (isort (uniI A0 (B0.map fun m => m + sh)))) = ns at hl hq ⊢
  refine ⟨_, _, rfl, fun j acc r G' => G' = G5 ∧ acc = tdic (ns.take j) ∧ ∃ z3 z5, r = [.sh (rulD C A0 e), .sh (rulD C B0 e'), .sh (.int sh), z3, .no, z5], ⟨rfl, rfl, _, _, rfl⟩, fun j d acc r4 G4 hj ⟨h1, h2, z3, z5, h3⟩ => ?_, fun acc r4 G4 ⟨h1, h2, z3, z5, h3⟩ => ?_⟩
  · subst h1 h2 h3
    obtain ⟨o, hjo, rfl⟩ := ints_get hj
    rintro Y ⟨s1, H1, C1, cl, fp, rfl⟩
    refine wg_name 4 nd rfl (by walk_at "vis") (by decide) (lt_ rfl) ?_
    rintro Y ⟨s1, H1, C1, cl, fp, rfl⟩
    refine we_var 4 rfl (by walk_at "vis") rfl ?_
    refine ⟨.inl o, rfl, ?_⟩
    rintro Y ⟨s1, H1, C1, cl, fp, rfl⟩
    refine we_bl ?_
    refine ⟨_, _, rfl, ?_, rfl, ?_, _, _, rfl⟩
    · have := tdic_len (ns.take j)
      rw [List.length_take] at this
      unfold LIM; omega
    · rw [tdic_snoc hjo]
  subst h1 h2 h3
  rw [List.length_map, List.take_length, dicD_tdic]
  refine ⟨_, .inl rfl, ?_⟩
  refine c_sortedD rfl ?_
  exact ⟨_, rfl, hq⟩
theorem ok_joint_spans {f C : Addr} {fd : FuncData} {k : Nat} {t : Tok} (F : Fun K "joint_spans" "joint_spans" s_joint_spans f fd) (m_MAX_SHIFT : mg "MAX_SHIFT" = some (.int 300 t)) (c_is_number : Cal P w K mg base "is_number" k ["value", "lowest", "highest"] numF) (c_spans_at : Cal P w K mg base "spans_at" k ["one", "other", "shift"] (spatF C)) : FnOk P w K mg base CX0 (k + 1) f fd ["one", "other", "shift"] (spD K (jointF C)) := by
  refine def_ok F sc_joint_spans (fun ds G post h => ?_) (fun cdv A outer s H E hr ds G post h => ?_)
  · obtain ⟨A0, B0, e, e', sh, rfl, _⟩ := h; rfl
  obtain ⟨A0, B0, e, e', sh, rfl, hA, hB, hs, hq⟩ := h
  have nd := sc_joint_spans.nd
  -- 78
  refine wb_cons (ws_if ?_)
  refine wt_not ?_
  refine wt_val (fun _ => rfl) ?_
  refine we_cal c_is_number hr rfl ?_
  refine wa_cons ?_
  refine we_var 2 rfl (by walk_at "vis") rfl ?_
  refine ⟨_, _, rfl, ?_⟩
  refine wa_cons ?_
  refine we_bin ?_
  refine we_int ?_
  refine we_globI rfl m_MAX_SHIFT ?_
  refine ⟨_, _, .inl rfl, .inl rfl, ?_⟩
  refine opw_sub ?_
  refine ⟨_, _, rfl, ?_⟩
  refine wa_cons ?_
  refine we_globI rfl m_MAX_SHIFT ?_
  refine ⟨_, _, rfl, ?_⟩
  refine wa_nil ?_
  refine ⟨_, 0 - 300, 300, rfl, rfl, ?_⟩
  rw [show numB (0 - 300) 300 (.int sh) = true from by show (decide (0 - 300 ≤ sh) && decide (sh ≤ 300)) = true; simp; omega]
  refine ⟨_, rfl, fun hd => absurd (show false = true from hd) Bool.false_ne_true, fun _ => ?_⟩
  refine wb_nil ?_
  -- 80
  refine wb_cons (ws_ret ?_)
  refine we_cal c_spans_at hr rfl ?_
  refine wa_cons ?_
  refine we_var 0 rfl (by walk_at "vis") rfl ?_
  refine ⟨_, _, rfl, ?_⟩
  refine wa_cons ?_
  refine we_var 1 rfl (by walk_at "vis") rfl ?_
  refine ⟨_, _, rfl, ?_⟩
  refine wa_cons ?_
  refine we_var 2 rfl (by walk_at "vis") rfl ?_
  refine ⟨_, _, rfl, ?_⟩
  refine wa_nil ?_
  refine ⟨A0, B0, e, e', sh, rfl, hA, hB, ?_⟩
  exact ⟨_, rfl, hq⟩
theorem ok_best_shift {f C : Addr} {fd : FuncData} {k : Nat} {t : Tok} (F : Fun K "best_shift" "best_shift" s_best_shift f fd) (B : Bn mg) (m_MAX_SHIFT : mg "MAX_SHIFT" = some (.int 300 t)) (c_is_number : Cal P w K mg base "is_number" k ["value", "lowest", "highest"] numF) (c_spans_at : Cal P w K mg base "spans_at" k ["one", "other", "shift"] (spatF C)) : FnOk P w K mg base CX0 (k + 1) f fd ["one", "other", "lowest", "highest"] (spD K (bshF C)) := by
  refine def_ok F sc_best_shift (fun ds G post h => ?_) (fun cdv A outer s H E hr ds G post h => ?_)
  · obtain ⟨A0, B0, e, e', lo, hi, rfl, _⟩ := h; rfl
  obtain ⟨A0, B0, e, e', lo, hi, rfl, hA, hB, hs, hq⟩ := h
  have nd := sc_best_shift.nd
  -- 82
  refine wb_cons (ws_if ?_)
  refine wt_w (ww_or ?_)
  refine wt_not ?_
  refine wt_val (fun _ => rfl) ?_
  refine we_cal c_is_number hr rfl ?_
  refine wa_cons ?_
  refine we_var 2 rfl (by walk_at "vis") rfl ?_
  refine ⟨_, _, rfl, ?_⟩
  refine wa_cons ?_
  refine we_bin ?_
  refine we_int ?_
  refine we_globI rfl m_MAX_SHIFT ?_
  refine ⟨_, _, .inl rfl, .inl rfl, ?_⟩
  refine opw_sub ?_
  refine ⟨_, _, rfl, ?_⟩
  refine wa_cons ?_
  refine we_globI rfl m_MAX_SHIFT ?_
  refine ⟨_, _, rfl, ?_⟩
  refine wa_nil ?_
  refine ⟨_, 0 - 300, 300, rfl, rfl, ?_⟩
  rw [show numB (0 - 300) 300 (.int lo) = true from by show (decide (0 - 300 ≤ lo) && decide (lo ≤ 300)) = true; simp; omega]
  refine ⟨_, rfl, fun _ => ?_, fun hd => absurd (show false = true from hd) Bool.false_ne_true⟩
  refine ww_or1 ?_
  refine wt_not ?_
  refine wt_val (fun _ => rfl) ?_
  refine we_cal c_is_number hr rfl ?_
  refine wa_cons ?_
  refine we_var 3 rfl (by walk_at "vis") rfl ?_
  refine ⟨_, _, rfl, ?_⟩
  refine wa_cons ?_
  refine we_var 2 rfl (by walk_at "vis") rfl ?_
  refine ⟨_, _, rfl, ?_⟩
  refine wa_cons ?_
  refine we_globI rfl m_MAX_SHIFT ?_
  refine ⟨_, _, rfl, ?_⟩
  refine wa_nil ?_
  refine ⟨_, lo, 300, rfl, rfl, ?_⟩
  rw [show numB lo 300 (.int hi) = true from by show (decide (lo ≤ hi) && decide (hi ≤ 300)) = true; simp; omega]
  refine ⟨_, rfl, fun hd => absurd (show false = true from hd) Bool.false_ne_true, fun _ => ?_⟩
  refine wb_nil ?_
  -- 84
  refine wb_cons (ws_setLcR2 [("shift", 5)] 4 rfl nd rfl rfl (by rfl) (blkOk_by (by rfl)) (by rfl) B.range ?_)
  refine we_var 2 rfl (by walk_at "vis") rfl ?_
  refine we_bin ?_
  refine we_var 3 rfl (by walk_at "vis") rfl ?_
  refine we_int ?_
  refine ⟨_, _, .inl rfl, .inl rfl, ?_⟩
  refine opw_add ?_
  refine ⟨_, _, rfl, rfl, ⟨⟨by omega, by omega⟩, by omega, by omega⟩, fun j acc r G' => G' = G ∧ acc = (((rgI lo (hi + 1)).take j).map fun s => (((jsM A0 B0 s).length : Nat) : Int)).map D.int ∧ r = [.sh (rulD C A0 e), .sh (rulD C B0 e'), .sh (.int lo), .sh (.int hi), .no, .no], ⟨rfl, rfl, rfl⟩, fun j acc r4 G4 hj ⟨h1, h2, h3⟩ => ?_, fun acc r4 G4 ⟨h1, h2, h3⟩ => ?_⟩
  · subst h1 h2 h3
    have hjg : (rgI lo (hi + 1))[j]? = some (lo + ((j : Nat) : Int)) := rgI_get hj
    rintro Y ⟨s1, H1, C1, cl, fp, rfl⟩
    refine wg_name 5 nd rfl (by walk_at "vis") (by decide) (lt_ rfl) ?_
    rintro Y ⟨s1, H1, C1, cl, fp, rfl⟩
    refine we_b1 (x := "len") (id := "len") rfl B.len bt_len ?_
    refine we_cal c_spans_at hr rfl ?_
    refine wa_cons ?_
    refine we_var 0 rfl (by walk_at "vis") rfl ?_
    refine ⟨_, _, rfl, ?_⟩
    refine wa_cons ?_
    refine we_var 1 rfl (by walk_at "vis") rfl ?_
    refine ⟨_, _, rfl, ?_⟩
    refine wa_cons ?_
    refine we_var 5 rfl (by walk_at "vis") rfl ?_
    refine ⟨_, _, rfl, ?_⟩
    refine wa_nil ?_
    refine ⟨A0, B0, e, e', _, rfl, hA, hB, ?_⟩
    refine ⟨_, .inl rfl, ?_⟩
    refine c_len ?_
    refine ⟨_, _, rfl, ?_, rfl, ?_, rfl⟩
    · rw [List.length_map, List.length_map, List.length_take, rgI_length]; unfold LIM; omega
    · rw [map_snoc _ hjg, List.map_append, List.length_map]; rfl
  subst h1 h2 h3
  have e9 : (rgI lo (hi + 1)).take (hi + 1 - lo).toNat = rgI lo (hi + 1) := List.take_of_length_le (by rw [rgI_length]; exact Nat.le_refl _)
  rw [e9]
  refine ⟨lt_ rfl, ?_⟩
  -- 85
  refine wb_cons (ws_ret ?_)
  refine we_bin ?_
  refine we_var 2 rfl (by walk_at "vis") rfl ?_
  refine we_index ?_
  refine we_var 4 rfl (by walk_at "vis") rfl ?_
  refine ⟨_, .inl rfl, ?_⟩
  refine we_b1 (x := "max") (id := "max") rfl B.max bt_max ?_
  refine we_var 4 rfl (by walk_at "vis") rfl ?_
  refine ⟨_, .inl rfl, ?_⟩
  refine c_maxL rfl (by rw [Ne, List.map_eq_nil_iff]; intro z; have := congrArg List.length z; rw [rgI_length] at this; simp at this; omega) ?_
  intro m hm1 hm2
  obtain ⟨j, x, hx1, hx2, hx3, hx4⟩ := bestI_at (f := fun s => (jsM A0 B0 s).length) (by intro z; have := congrArg List.length z; rw [rgI_length] at this; simp at this; omega) hm1 hm2
  refine ⟨_, _, .inl rfl, .inl rfl, ?_⟩
  refine mw_index hx3 hx4 ?_
  refine ⟨_, _, .inl rfl, .inl rfl, ?_⟩
  refine opw_add ?_
  have hxl : lo + ((j : Nat) : Int) < hi + 1 := by have := (List.getElem?_eq_some_iff.mp hx1).1; rw [rgI_length] at this; omega
  have hxe : x = lo + ((j : Nat) : Int) := by rw [rgI_get hxl] at hx1; cases hx1; rfl
  rw [← hxe]
  rw [List.getElem?_map, hx1] at hx3
  have hm3 : (((jsM A0 B0 x).length : Nat) : Int) = m := Option.some.inj hx3
  refine ⟨_, rfl, hq x (by omega) (by omega) (fun s h1 h2 => ?_) fun s h1 h2 => ?_⟩
  · have := hm2 _ (List.mem_map.mpr ⟨s, mem_rgI.mpr ⟨h1, by omega⟩, rfl⟩)
    rw [← hm3] at this
    exact_mod_cast this
  · have hs0 : lo + (((s - lo).toNat : Nat) : Int) < hi + 1 := by omega
    have hsg := rgI_get hs0
    have hse : lo + (((s - lo).toNat : Nat) : Int) = s := by omega
    rw [hse] at hsg
    have h5 := hm2 _ (List.mem_map.mpr ⟨s, mem_rgI.mpr ⟨h1, by omega⟩, rfl⟩)
    have h6 := hx4 (s - lo).toNat (by omega)
    rw [List.getElem?_map, hsg] at h6
    have h7 : (((jsM A0 B0 s).length : Nat) : Int) ≠ m := fun z => h6 (by rw [← z]; rfl)
    rw [← hm3] at h5 h7
    have h8 : (jsM A0 B0 s).length ≤ (jsM A0 B0 x).length := by exact_mod_cast h5
    have h9 : (jsM A0 B0 s).length ≠ (jsM A0 B0 x).length := fun z => h7 (by rw [z])
    omega

theorem spanM_len {ms : List Int} (h : GoodM 12 300 ms) : (spanM ms).length ≤ 144 := by
  unfold spanM
  rw [isort_length]
  refine Nat.le_trans (dedI_len _) ?_
  rw [isort_length]
  refine Nat.le_trans (spread_len ms) ?_
  have h1 := h.few
  have h2 : ms.length * ms.length ≤ 12 * 12 := Nat.mul_le_mul (by omega) (by omega)
  omega
theorem cross_len (A : List Int) (s : Int) : ∀ B : List Int, (crossM A B s).length ≤ B.length * A.length
  | [] => by simp [crossM]
  | b :: B => by
    unfold crossM
    rw [List.flatMap_cons, List.length_append, List.length_cons, Nat.succ_mul]
    have h1 := cross_len A s B
    unfold crossM at h1
    have h2 : (crossI A s b).length ≤ A.length := by unfold crossI; rw [List.length_map]; exact List.length_filter_le _ _
    omega
theorem cross_snoc {A B : List Int} {s m : Int} {k : Nat} (h : B[k]? = some m) : crossM A (B.take (k + 1)) s = crossM A (B.take k) s ++ crossI A s m := by
  unfold crossM
  rw [take_snoc h, List.flatMap_append]
  simp
def Best (f : Int → Nat) (lo hi v : Int) : Prop := lo ≤ v ∧ v ≤ hi ∧ (∀ s, lo ≤ s → s ≤ hi → f s ≤ f v) ∧ ∀ s, lo ≤ s → s < v → f s < f v
theorem Best.uniq {f : Int → Nat} {lo hi v w : Int} (h : Best f lo hi v) (k : Best f lo hi w) : v = w := by
  obtain ⟨h1, h2, h3, h4⟩ := h
  obtain ⟨k1, k2, k3, k4⟩ := k
  have a := h3 w k1 k2
  have b := k3 v h1 h2
  rcases Int.lt_trichotomy v w with q | q | q
  · have := k4 v h1 q; omega
  · exact q
  · have := h4 w k1 q; omega
theorem Best.parts {f : Int → Nat} {lo mid hi v : Int} {ps : List Int} {m : Int} (h : Best f lo hi v) (hp : (∃ v1, ps = [v1] ∧ mid = hi ∧ Best f lo mid v1) ∨ ∃ v1 v2, ps = [v1, v2] ∧ Best f lo mid v1 ∧ Best f (mid + 1) hi v2 ∧ mid < hi ∧ lo ≤ mid)
    (hm : m ∈ ps.map fun s => ((f s : Nat) : Int)) (hg : ∀ y ∈ ps.map (fun s => ((f s : Nat) : Int)), y ≤ m) :
    ∃ (j : Nat), ps[j]? = some v ∧ (ps.map fun s => ((f s : Nat) : Int))[j]? = some m ∧ (∀ i, i < j → (ps.map fun s => ((f s : Nat) : Int))[i]? ≠ some m) ∧ ((f v : Nat) : Int) = m := by
  rcases hp with ⟨v1, rfl, rfl, h1⟩ | ⟨v1, v2, rfl, h1, h2, hlt, hlo⟩
  · obtain rfl := h.uniq h1
    have e : m = (f v : Int) := by simpa using hm
    subst e
    exact ⟨0, rfl, rfl, fun i hi => absurd hi (Nat.not_lt_zero i), rfl⟩
  · have g1 := hg (f v1) (by simp)
    have g2 := hg (f v2) (by simp)
    have hm' : m = (f v1 : Int) ∨ m = (f v2 : Int) := by simpa using hm
    by_cases hc : f v2 ≤ f v1
    · have b : Best f lo hi v1 := ⟨h1.1, by have := h1.2.1; omega, fun s s1 s2 => by
        by_cases hs : s ≤ mid
        · exact h1.2.2.1 s s1 hs
        · exact Nat.le_trans (h2.2.2.1 s (by omega) s2) hc, h1.2.2.2⟩
      obtain rfl := h.uniq b
      have e : m = (f v : Int) := by omega
      subst e
      exact ⟨0, rfl, rfl, fun i hi => absurd hi (Nat.not_lt_zero i), rfl⟩
    · have b : Best f lo hi v2 := ⟨by have := h2.1; omega, h2.2.1, fun s s1 s2 => by
        by_cases hs : s ≤ mid
        · have := h1.2.2.1 s s1 hs; omega
        · exact h2.2.2.1 s (by omega) s2, fun s s1 s2 => by
        by_cases hs : s ≤ mid
        · have := h1.2.2.1 s s1 hs; omega
        · exact h2.2.2.2 s (by omega) s2⟩
      obtain rfl := h.uniq b
      have e : m = (f v : Int) := by omega
      subst e
      refine ⟨1, rfl, rfl, fun i hi z => ?_, rfl⟩
      obtain rfl : i = 0 := by omega
      have z' : ((f v1 : Nat) : Int) = (f v : Int) := Option.some.inj z
      omega
theorem GoodM.mem0 {most len : Int} {ms : List Int} (h : GoodM most len ms) : (0 : Int) ∈ ms := by
  have := h.zero
  cases ms with
  | nil => cases this
  | cons a as => cases this; exact List.mem_cons_self
theorem GoodM.memL {most len : Int} {ms : List Int} (h : GoodM most len ms) : lastI ms ∈ ms := by
  unfold lastI
  rw [last_of h.ne]
  exact List.getLast_mem h.ne
theorem js300 {A B : List Int} {n m : Int} (hA : GoodM n 300 A) (hB : GoodM m 300 B) : lastI (jsM A B 300) = 300 + lastI B ∧ jsM A B 300 ≠ [] := by
  have hB0 := (hB.le _ hB.memL).1
  have mem : 300 + lastI B ∈ jsM A B 300 := mem_js.mpr ⟨0, .inl hA.mem0, lastI B + 300, .inr ⟨_, hB.memL, rfl⟩, by omega, by omega⟩
  refine ⟨asc_last (asc_js _ _ _) mem fun z hz => ?_, fun e => by rw [e] at mem; cases mem⟩
  obtain ⟨x, hx, y, hy, h1, rfl⟩ := mem_js.mp hz
  have hx0 : 0 ≤ x := by
    rcases hx with q | ⟨k, hk, rfl⟩
    · exact (hA.le x q).1
    · have := (hB.le k hk).1; omega
  have hy1 : y ≤ 300 + lastI B := by
    rcases hy with q | ⟨k, hk, rfl⟩
    · have := (hA.le y q).2; omega
    · have : k ≤ lastI B := hB.last_le k hk; omega
  omega
theorem js_len {A B : List Int} (s : Int) (hA : GoodM 12 300 A) (hB : GoodM 12 300 B) : (jsM A B s).length ≤ 90000 := by
  unfold jsM spanM
  rw [isort_length]
  refine Nat.le_trans (dedI_len _) (spread_len300 ?_)
  rw [isort_length]
  have h1 := uniI_len A (B.map fun m => m + s)
  rw [List.length_map] at h1
  have h2 := hA.few
  have h3 := hB.few
  omega

theorem ok_law {f C : Addr} {fd : FuncData} {k : Nat} (F : Fun K "law" "law" s_law f fd) (B : Bn mg) (R : RulC K C)
    (c_law_begun : Cal P w K mg base "_law_begun" k ["_law_script"] (begunF K)) (c_law_take : Cal P w K mg base "_law_take" k ["_law_box", "_law_many"] takeF) (c_law_ruler : Cal P w K mg base "_law_ruler" k ["_law_box", "_law_most", "_law_length"] (drawF C))
    (c_law_different : Cal P w K mg base "_law_different" k ["_law_values"] diffF)
    (c_joint_spans : Cal P w K mg base "joint_spans" k ["one", "other", "shift"] (jointF C)) (c_best_shift : Cal P w K mg base "best_shift" k ["one", "other", "lowest", "highest"] (bshF C))
    (p_marks : PropD P w K mg base C "marks" k (getF C 1)) (p_length : PropD P w K mg base C "length" k (lenF C)) (p_spans : PropD P w K mg base C "spans" k (spaF C)) (d_turned : MethD P w K mg base C "turned" k ["self"] (tndF C)) : FnOk P w K mg base CX0 (k + 2) f fd ["_law_script"] (spD K (lawF K)) := by
  refine def_ok F sc_law (fun ds G post h => ?_) (fun cdv A outer s H E hr ds G post h => ?_)
  · obtain ⟨a, ns, rfl, _⟩ := h; rfl
  obtain ⟨a, ns, rfl, hS, hq⟩ := h
  have nd := sc_law.nd
  -- 112
  refine wb_cons (ws_set 1 nd rfl (by walk_at "vis") ?_)
  refine we_cal c_law_begun hr rfl ?_
  refine wa_cons ?_
  refine we_var 0 rfl (by walk_at "vis") rfl ?_
  refine ⟨_, _, rfl, ?_⟩
  refine wa_nil ?_
  refine ⟨a, ns, rfl, hS, fun b g G1 hb => ?_⟩
  refine ⟨lt_ rfl, _, rfl, ?_⟩
  -- 113
  refine wb_cons (ws_unp2 2 3 rfl nd rfl rfl (by walk_at "vis") (by walk_at "vis") ?_)
  refine we_tup ?_
  refine wa_cons ?_
  refine we_cal c_law_ruler hr rfl ?_
  refine wa_cons ?_
  refine we_var 1 rfl (by walk_at "vis") rfl ?_
  refine ⟨_, _, rfl, ?_⟩
  refine wa_cons ?_
  refine we_int ?_
  refine ⟨_, _, rfl, ?_⟩
  refine wa_cons ?_
  refine we_int ?_
  refine ⟨_, _, rfl, ?_⟩
  refine wa_nil ?_
  refine ⟨G, b, g, 8, 40, rfl, hb, ⟨by decide, by decide⟩, ⟨by decide, by decide⟩, fun A0 e1 G2 hgA he10 he11 hb2 => ?_⟩
  have hA : GoodM 12 300 A0 := hgA.wide (by decide) (by decide)
  have hA1 := hA.few
  refine ⟨_, _, rfl, ?_⟩
  refine wa_cons ?_
  refine we_cal c_law_ruler hr rfl ?_
  refine wa_cons ?_
  refine we_var 1 rfl (by walk_at "vis") rfl ?_
  refine ⟨_, _, rfl, ?_⟩
  refine wa_cons ?_
  refine we_int ?_
  refine ⟨_, _, rfl, ?_⟩
  refine wa_cons ?_
  refine we_ix (fun _ _ => rfl) ?_
  refine we_lst ?_
  refine wa_cons ?_
  refine we_int ?_
  refine ⟨_, _, rfl, ?_⟩
  refine wa_cons ?_
  refine we_int ?_
  refine ⟨_, _, rfl, ?_⟩
  refine wa_nil ?_
  refine ⟨lt_ rfl, ?_⟩
  refine we_cal c_law_take hr rfl ?_
  refine wa_cons ?_
  refine we_var 1 rfl (by walk_at "vis") rfl ?_
  refine ⟨_, _, rfl, ?_⟩
  refine wa_cons ?_
  refine we_int ?_
  refine ⟨_, _, rfl, ?_⟩
  refine wa_nil ?_
  refine ⟨G, b, g, 2, rfl, hb2, ⟨by decide, by decide⟩, fun v G3 hv0 hv1 hb3 => ?_⟩
  obtain ⟨len, hlen, hat⟩ : ∃ len : Int, (len = 10 ∨ len = 60) ∧ atD [.int 10, .int 60] v = some (.int len) := by
    rcases (by omega : v = 0 ∨ v = 1) with rfl | rfl
    · exact ⟨10, .inl rfl, rfl⟩
    · exact ⟨60, .inr rfl, rfl⟩
  refine ⟨_, _, .inl rfl, .inl rfl, ?_⟩
  refine ixw_lst (hat) ?_
  refine ⟨_, _, rfl, ?_⟩
  refine wa_nil ?_
  refine ⟨G, b, g, 8, len, rfl, hb3, ⟨by decide, by decide⟩, ⟨by omega, by omega⟩, fun B0 e2 G4 hgB he20 he21 hb4 => ?_⟩
  have hB : GoodM 12 300 B0 := hgB.wide (by decide) (by omega)
  have hB1 := hB.few
  refine ⟨_, _, rfl, ?_⟩
  refine wa_nil ?_
  refine ⟨lt_ rfl, ?_⟩
  refine ⟨_, _, _, rfl, lt_ rfl, lt_ rfl, ?_⟩
  -- 114
  refine wb_cons (ws_forL (is := [4]) PassesOwn.never rfl ?_)
  refine we_lst ?_
  refine wa_cons ?_
  refine we_bin ?_
  refine we_cal c_law_take hr rfl ?_
  refine wa_cons ?_
  refine we_var 1 rfl (by walk_at "vis") rfl ?_
  refine ⟨_, _, rfl, ?_⟩
  refine wa_cons ?_
  refine we_int ?_
  refine ⟨_, _, rfl, ?_⟩
  refine wa_nil ?_
  refine ⟨G, b, g, 601, rfl, hb4, ⟨by decide, by decide⟩, fun s1 G5 hs10 hs11 hb5 => ?_⟩
  refine we_int ?_
  refine ⟨_, _, .inl rfl, .inl rfl, ?_⟩
  refine opw_sub ?_
  refine ⟨_, _, rfl, ?_⟩
  refine wa_cons ?_
  refine we_bin ?_
  refine we_cal c_law_take hr rfl ?_
  refine wa_cons ?_
  refine we_var 1 rfl (by walk_at "vis") rfl ?_
  refine ⟨_, _, rfl, ?_⟩
  refine wa_cons ?_
  refine we_int ?_
  refine ⟨_, _, rfl, ?_⟩
  refine wa_nil ?_
  refine ⟨G, b, g, 101, rfl, hb5, ⟨by decide, by decide⟩, fun s2 G6 hs20 hs21 hb6 => ?_⟩
  refine we_int ?_
  refine ⟨_, _, .inl rfl, .inl rfl, ?_⟩
  refine opw_sub ?_
  refine ⟨_, _, rfl, ?_⟩
  refine wa_cons ?_
  refine we_un rfl ?_
  refine we_int ?_
  refine ⟨_, rfl, ?_⟩
  refine ⟨_, _, rfl, ?_⟩
  refine wa_cons ?_
  refine we_int ?_
  refine ⟨_, _, rfl, ?_⟩
  refine wa_nil ?_
  refine ⟨lt_ rfl, ?_⟩
  refine ⟨_, _, rfl, fun j r G' => G' = G6 ∧ ∃ z4 z5 z6 z7 z8 z16 z17, r = [.sh (.adr a), .sh (.adr b), .sh (rulD C A0 e1), .sh (rulD C B0 e2), z4, z5, z6, z7, z8, .no, .no, .no, .no, .no, .no, .no, z16, z17], ⟨rfl, .no, .no, .no, .no, .no, .no, .no, rfl⟩, fun j d r3 G3 hj ⟨h1, z4, z5, z6, z7, z8, z16, z17, h2⟩ => ?_, fun r3 G3 ⟨h1, z4, z5, z6, z7, z8, z16, z17, h2⟩ => ?_⟩
  · subst h1 h2
    obtain ⟨sh, rfl, hsh⟩ : ∃ sh : Int, d = .int sh ∧ (-300 ≤ sh ∧ sh ≤ 300) := by
      match j, hj with
      | 0, hj => cases hj; exact ⟨_, rfl, by omega, by omega⟩
      | 1, hj => cases hj; exact ⟨_, rfl, by omega, by omega⟩
      | 2, hj => cases hj; exact ⟨_, rfl, by omega, by omega⟩
      | 3, hj => cases hj; exact ⟨_, rfl, by omega, by omega⟩
      | n + 4, hj => cases hj
    refine wg_name 4 nd rfl (by walk_at "vis") (by decide) (lt_ rfl) ?_
    -- 115
    refine wb_cons (ws_set 5 nd rfl (by walk_at "vis") ?_)
    refine we_cal c_joint_spans hr rfl ?_
    refine wa_cons ?_
    refine we_var 2 rfl (by walk_at "vis") rfl ?_
    refine ⟨_, _, rfl, ?_⟩
    refine wa_cons ?_
    refine we_var 3 rfl (by walk_at "vis") rfl ?_
    refine ⟨_, _, rfl, ?_⟩
    refine wa_cons ?_
    refine we_var 4 rfl (by walk_at "vis") rfl ?_
    refine ⟨_, _, rfl, ?_⟩
    refine wa_nil ?_
    refine ⟨A0, B0, e1, e2, sh, rfl, hA, hB, hsh, ?_⟩
    refine ⟨lt_ rfl, _, rfl, ?_⟩
    -- 116
    refine wb_cons (ws_if ?_)
    refine wt_cmp (nomark _) ?_
    refine we_cal c_joint_spans hr rfl ?_
    refine wa_cons ?_
    refine we_var 3 rfl (by walk_at "vis") rfl ?_
    refine ⟨_, _, rfl, ?_⟩
    refine wa_cons ?_
    refine we_var 2 rfl (by walk_at "vis") rfl ?_
    refine ⟨_, _, rfl, ?_⟩
    refine wa_cons ?_
    refine we_bin ?_
    refine we_int ?_
    refine we_var 4 rfl (by walk_at "vis") rfl ?_
    refine ⟨_, _, .inl rfl, .inl rfl, ?_⟩
    refine opw_sub ?_
    refine ⟨_, _, rfl, ?_⟩
    refine wa_nil ?_
    refine ⟨B0, A0, e2, e1, 0 - sh, rfl, hB, hA, ⟨by omega, by omega⟩, ?_⟩
    rw [js_swap]
    refine we_var 5 rfl (by walk_at "vis") rfl ?_
    refine ⟨_, _, .inl rfl, .inl rfl, ?_⟩
    refine opw_neD (n := 1) hr.units (okD_ints _) (okD_ints _) (by decide) ?_
    rw [eqD_ints]
    refine ⟨_, rfl, fun hd => absurd hd (by simp), fun _ => ?_⟩
    refine wb_nil ?_
    -- 118
    refine wb_cons (ws_set 6 nd rfl (by walk_at "vis") ?_)
    refine we_bin ?_
    refine we_bin ?_
    refine we_prop R.cls p_length hr ?_
    refine we_var 2 rfl (by walk_at "vis") rfl ?_
    refine ⟨_, rfl, A0, e1, rfl, hA.ne, ?_⟩
    refine we_prop R.cls p_length hr ?_
    refine we_var 3 rfl (by walk_at "vis") rfl ?_
    refine ⟨_, rfl, B0, e2, rfl, hB.ne, ?_⟩
    refine ⟨_, _, .inl rfl, .inl rfl, ?_⟩
    refine opw_sub ?_
    refine we_var 4 rfl (by walk_at "vis") rfl ?_
    refine ⟨_, _, .inl rfl, .inl rfl, ?_⟩
    refine opw_sub ?_
    refine ⟨lt_ rfl, _, rfl, ?_⟩
    -- 119
    refine wb_cut (fun r G' => G' = G3 ∧ r = [.sh (.adr a), .sh (.adr b), .sh (rulD C A0 e1), .sh (rulD C B0 e2), .sh (.int sh), .own (.lst ((jsM A0 B0 sh).map D.int)), .sh (.int (A0.getLast?.getD 0 - B0.getLast?.getD 0 - sh)), z7, z8, .no, .no, .no, .no, .no, .no, .no, z16, z17]) (ws_if ?_) ?_
    · skip
      refine wt_w (ww_and ?_)
      refine wt_chainI (fun i j R q => opw_le q) (fun i j R q => opw_le q) ?_
      refine we_un rfl ?_
      refine we_int ?_
      refine ⟨_, rfl, ?_⟩
      refine we_var 6 rfl (by walk_at "vis") rfl ?_
      refine ⟨-300, A0.getLast?.getD 0 - B0.getLast?.getD 0 - sh, 300, rfl, rfl, fun _ => ?_, ?_⟩
      · skip
        refine we_int ?_
        exact ⟨rfl, rfl, rfl⟩
      refine ⟨fun hc => ?_, fun hc => ⟨fun hd => absurd hd (by decide), fun _ => wb_nil ⟨rfl, rfl⟩⟩⟩
      have hc2 : -300 ≤ (A0.getLast?.getD 0 - B0.getLast?.getD 0 - sh) ∧ (A0.getLast?.getD 0 - B0.getLast?.getD 0 - sh) ≤ 300 := by simpa using hc
      refine ww_and1 ?_
      refine wt_cmp (nomark _) ?_
      refine we_cal c_joint_spans hr rfl ?_
      refine wa_cons ?_
      refine we_meth0 R.cls d_turned hr ?_
      refine we_var 2 rfl (by walk_at "vis") rfl ?_
      refine ⟨_, rfl, A0, e1, rfl, hA, ⟨he10, by omega⟩, ?_⟩
      refine ⟨_, _, rfl, ?_⟩
      refine wa_cons ?_
      refine we_meth0 R.cls d_turned hr ?_
      refine we_var 3 rfl (by walk_at "vis") rfl ?_
      refine ⟨_, rfl, B0, e2, rfl, hB, ⟨he20, by omega⟩, ?_⟩
      refine ⟨_, _, rfl, ?_⟩
      refine wa_cons ?_
      refine we_var 6 rfl (by walk_at "vis") rfl ?_
      refine ⟨_, _, rfl, ?_⟩
      refine wa_nil ?_
      refine ⟨turnM A0, turnM B0, e1, e2, (A0.getLast?.getD 0 - B0.getLast?.getD 0 - sh), rfl, hA.turn, hB.turn, hc2, ?_⟩
      rw [show jsM (turnM A0) (turnM B0) (A0.getLast?.getD 0 - B0.getLast?.getD 0 - sh) = (jsM A0 B0 sh) from js_turn A0 B0 sh]
      refine we_var 5 rfl (by walk_at "vis") rfl ?_
      refine ⟨_, _, .inl rfl, .inl rfl, ?_⟩
      refine opw_neD (n := 1) hr.units (okD_ints _) (okD_ints _) (by decide) ?_
      rw [eqD_ints]
      refine ⟨_, rfl, fun hd => absurd hd (by simp), fun _ => ?_⟩
      exact wb_nil (⟨rfl, rfl⟩)
    rintro r4 G4 ⟨h1, h2⟩
    subst h1 h2
    -- 121
    refine wb_cons (ws_if ?_)
    refine wt_cmp (nomark _) ?_
    refine we_lcT [("_law_span", 16)] rfl nd (blkOk_by (by rfl)) ?_
    refine we_bin ?_
    refine we_prop R.cls p_spans hr ?_
    refine we_var 2 rfl (by walk_at "vis") rfl ?_
    refine ⟨_, rfl, A0, e1, rfl, by omega, ?_⟩
    refine we_prop R.cls p_spans hr ?_
    refine we_var 3 rfl (by walk_at "vis") rfl ?_
    refine ⟨_, rfl, B0, e2, rfl, by omega, ?_⟩
    refine ⟨_, _, .inl rfl, .inl rfl, ?_⟩
    refine opw_catT (by have h1 := spanM_len hA; have h2 := spanM_len hB; unfold spanM at h1 h2; rw [List.length_map, List.length_map]; unfold LIM; omega) ?_
    rw [← List.map_append, show isort (dedI (isort (spreadL A0))) ++ isort (dedI (isort (spreadL B0))) = spanM A0 ++ spanM B0 from rfl]
    refine ⟨_, _, rfl, fun i acc r G' => G' = G4 ∧ acc = (([] : List Int).map D.int) ∧ r = [.sh (.adr a), .sh (.adr b), .sh (rulD C A0 e1), .sh (rulD C B0 e2), .sh (.int sh), .own (.lst ((jsM A0 B0 sh).map D.int)), .sh (.int (A0.getLast?.getD 0 - B0.getLast?.getD 0 - sh)), z7, z8, .no, .no, .no, .no, .no, .no, .no, .no, z17], ⟨rfl, rfl, rfl⟩, fun i d acc r5 G5 hi ⟨h1, h2, h3⟩ => ?_, fun acc r5 G5 ⟨h1, h2, h3⟩ => ?_⟩
    · subst h1 h2 h3
      obtain ⟨o, hio, rfl⟩ := ints_get hi
      have hin := span_sub (s := sh) hA.asc hB.asc (List.mem_of_getElem? hio)
      rintro Y ⟨s1, H1, C1, cl, fp, rfl⟩
      refine wg_name 16 nd rfl (by walk_at "vis") (by decide) (lt_ rfl) ?_
      rintro Y ⟨s1, H1, C1, cl, fp, rfl⟩
      refine wt_cmp rfl ?_
      refine we_var 16 rfl (by walk_at "vis") rfl ?_
      refine we_var 5 rfl (by walk_at "vis") rfl ?_
      refine ⟨_, _, .inl rfl, .inl rfl, ?_⟩
      refine opw_nin ?_
      refine ⟨_, rfl, fun hd => absurd hd (by simp [hin]), fun _ => ?_⟩
      exact ⟨rfl, rfl, rfl⟩
    subst h1 h2 h3
    refine we_lst ?_
    refine wa_nil ?_
    refine ⟨by decide, ?_⟩
    refine ⟨_, _, .inl rfl, .inl rfl, ?_⟩
    refine opw_neD (n := 1) hr.units (okD_ints _) (okD_ints []) (by decide) ?_
    rw [eqD_nil]
    refine ⟨_, rfl, fun hd => absurd (show false = true from hd) Bool.false_ne_true, fun _ => ?_⟩
    refine wb_nil ?_
    -- 123
    refine wb_cons (ws_set 7 nd rfl (by walk_at "vis") ?_)
    refine we_lst ?_
    refine wa_nil ?_
    refine ⟨by decide, ?_⟩
    refine ⟨lt_ rfl, _, rfl, ?_⟩
    -- 124
    refine wb_cons (ws_forT (is := [8]) PassesOwn.never rfl ?_)
    refine we_prop R.cls p_marks hr ?_
    refine we_var 3 rfl (by walk_at "vis") rfl ?_
    refine ⟨_, rfl, _, _, rfl, rfl, ?_⟩
    refine ⟨_, _, rfl, fun i r G' => G' = G5 ∧ ∃ z8 z17, r = [.sh (.adr a), .sh (.adr b), .sh (rulD C A0 e1), .sh (rulD C B0 e2), .sh (.int sh), .own (.lst ((jsM A0 B0 sh).map D.int)), .sh (.int (A0.getLast?.getD 0 - B0.getLast?.getD 0 - sh)), .own (.lst ((crossM A0 (B0.take i) sh).map D.int)), z8, .no, .no, .no, .no, .no, .no, .no, .no, z17], ⟨rfl, z8, z17, rfl⟩, fun i d r6 G7 hi ⟨h1, z8, z17, h2⟩ => ?_, fun r6 G7 ⟨h1, z8, z17, h2⟩ => ?_⟩
    · subst h1 h2
      obtain ⟨m, him, rfl⟩ := ints_get hi
      have hcl := cross_len A0 sh (B0.take (i + 1))
      rw [List.length_take] at hcl
      have hcl2 : min (i + 1) B0.length * A0.length ≤ 12 * 12 := Nat.mul_le_mul (by omega) (by omega)
      rw [cross_snoc him, List.length_append] at hcl
      refine wg_name 8 nd rfl (by walk_at "vis") (by decide) (lt_ rfl) ?_
      -- 125
      refine wb_cons (ws_expr ?_)
      refine we_extend ?_
      refine we_var 7 rfl (by walk_at "vis") rfl ?_
      refine ⟨_, _, rfl, rfl, ?_⟩
      refine we_lcT [("_law_more", 17)] rfl nd (blkOk_by (by rfl)) ?_
      refine we_prop R.cls p_marks hr ?_
      refine we_var 2 rfl (by walk_at "vis") rfl ?_
      refine ⟨_, rfl, _, _, rfl, rfl, ?_⟩
      refine ⟨_, _, rfl, fun q acc r G' => G' = G7 ∧ acc = (((A0.take q).filter fun o => !decide (o = m + sh)).map fun o => (((m + sh - o).natAbs : Nat) : Int)).map D.int ∧ r = [.sh (.adr a), .sh (.adr b), .sh (rulD C A0 e1), .sh (rulD C B0 e2), .sh (.int sh), .own (.lst ((jsM A0 B0 sh).map D.int)), .sh (.int (A0.getLast?.getD 0 - B0.getLast?.getD 0 - sh)), .own (.lst ((crossM A0 (B0.take i) sh).map D.int)), .sh (.int m), .no, .no, .no, .no, .no, .no, .no, .no, .no], ⟨rfl, rfl, rfl⟩, fun q d acc r8 G8 hqq ⟨h1, h2, h3⟩ => ?_, fun acc r8 G8 ⟨h1, h2, h3⟩ => ?_⟩
      · subst h1 h2 h3
        obtain ⟨o, hqo, rfl⟩ := ints_get hqq
        have hql : q < A0.length := (List.getElem?_eq_some_iff.mp hqo).1
        rintro Y ⟨s1, H1, C1, cl, fp, rfl⟩
        refine wg_name 17 nd rfl (by walk_at "vis") (by decide) (lt_ rfl) ?_
        rintro Y ⟨s1, H1, C1, cl, fp, rfl⟩
        refine wt_cmp (nomark _) ?_
        refine we_var 17 rfl (by walk_at "vis") rfl ?_
        refine we_bin ?_
        refine we_var 8 rfl (by walk_at "vis") rfl ?_
        refine we_var 4 rfl (by walk_at "vis") rfl ?_
        refine ⟨_, _, .inl rfl, .inl rfl, ?_⟩
        refine opw_add ?_
        refine ⟨_, _, .inl rfl, .inl rfl, ?_⟩
        refine opw_neI ?_
        refine ⟨_, rfl, fun hd => ?_, fun hd => ?_⟩
        · skip
          rintro Y ⟨s1, H1, C1, cl, fp, rfl⟩
          refine we_b1 (x := "abs") (id := "abs") rfl B.abs bt_abs ?_
          refine we_bin ?_
          refine we_bin ?_
          refine we_var 8 rfl (by walk_at "vis") rfl ?_
          refine we_var 4 rfl (by walk_at "vis") rfl ?_
          refine ⟨_, _, .inl rfl, .inl rfl, ?_⟩
          refine opw_add ?_
          refine we_var 17 rfl (by walk_at "vis") rfl ?_
          refine ⟨_, _, .inl rfl, .inl rfl, ?_⟩
          refine opw_sub ?_
          refine ⟨_, .inl rfl, ?_⟩
          refine c_abs ?_
          refine ⟨_, _, rfl, ?_, rfl, ?_, rfl⟩
          · rw [List.length_map, List.length_map]
            have h1 := List.length_filter_le (fun o => !decide (o = m + sh)) (A0.take q)
            rw [List.length_take] at h1
            unfold LIM; omega
          · rw [filter_snoc _ hqo, if_pos hd, List.map_append, List.map_append]
            have : (((m + sh - o).natAbs : Nat) : Int) = if m + sh - o < 0 then -(m + sh - o) else m + sh - o := by split <;> omega
            show _ ++ [D.int (if m + sh - o < 0 then -(m + sh - o) else m + sh - o)] = _
            rw [← this]; rfl
        refine ⟨rfl, ?_, rfl⟩
        rw [filter_snoc _ hqo, if_neg (by rw [hd]; exact Bool.false_ne_true), List.append_nil]
      subst h1 h2 h3
      rw [List.length_map, List.take_length, show ((A0.filter fun o => !decide (o = m + sh)).map fun o => (((m + sh - o).natAbs : Nat) : Int)) = crossI A0 sh m from rfl]
      refine ⟨_, _, _, rfl, rfl, by rw [List.length_map, List.length_map]; unfold LIM; omega, ?_⟩
      exact wb_nil (⟨rfl, .sh (.int m), .no, by rw [cross_snoc him, List.map_append]; rfl⟩)
    subst h1 h2
    rw [List.length_map, List.take_length]
    -- 126
    refine wb_cons (ws_if ?_)
    refine wt_cmp (nomark _) ?_
    refine we_var 5 rfl (by walk_at "vis") rfl ?_
    refine we_cal c_law_different hr rfl ?_
    refine wa_cons ?_
    refine we_bin ?_
    refine we_bin ?_
    refine we_t1 (x := "list") (id := "list") rfl B.list bt_list ?_
    refine we_prop R.cls p_spans hr ?_
    refine we_var 2 rfl (by walk_at "vis") rfl ?_
    refine ⟨_, rfl, A0, e1, rfl, by omega, ?_⟩
    refine ⟨_, .inl rfl, ?_⟩
    refine c_listT ?_
    refine we_t1 (x := "list") (id := "list") rfl B.list bt_list ?_
    refine we_prop R.cls p_spans hr ?_
    refine we_var 3 rfl (by walk_at "vis") rfl ?_
    refine ⟨_, rfl, B0, e2, rfl, by omega, ?_⟩
    refine ⟨_, .inl rfl, ?_⟩
    refine c_listT ?_
    refine ⟨_, _, .inl rfl, .inl rfl, ?_⟩
    refine opw_cat (by have h1 := spanM_len hA; have h2 := spanM_len hB; unfold spanM at h1 h2; rw [List.length_map, List.length_map]; unfold LIM; omega) ?_
    rw [← List.map_append]
    refine we_var 7 rfl (by walk_at "vis") rfl ?_
    refine ⟨_, _, .inl rfl, .inl rfl, ?_⟩
    refine opw_cat (by have h1 := spanM_len hA; have h2 := spanM_len hB; unfold spanM at h1 h2; have h3 := cross_len A0 sh B0; have h4 : B0.length * A0.length ≤ 12 * 12 := Nat.mul_le_mul (by omega) (by omega); rw [List.length_map, List.length_map, List.length_append]; unfold LIM; omega) ?_
    rw [← List.map_append, show isort (dedI (isort (spreadL A0))) ++ isort (dedI (isort (spreadL B0))) = spanM A0 ++ spanM B0 from rfl]
    refine ⟨_, _, rfl, ?_⟩
    refine wa_nil ?_
    refine ⟨_, rfl, by have h1 := spanM_len hA; have h2 := spanM_len hB; have h3 := cross_len A0 sh B0; have h4 : B0.length * A0.length ≤ 12 * 12 := Nat.mul_le_mul (by omega) (by omega); rw [List.length_append, List.length_append]; omega, ?_⟩
    rw [← js_cross hA.asc hB.asc]
    refine ⟨_, _, .inl rfl, .inl rfl, ?_⟩
    refine opw_neD (n := 1) hr.units (okD_ints _) (okD_ints _) (by decide) ?_
    rw [eqD_ints]
    refine ⟨_, rfl, fun hd => absurd hd (by simp), fun _ => ?_⟩
    refine wb_nil ?_
    exact wb_nil (⟨rfl, _, _, _, _, _, _, _, rfl⟩)
  subst h1 h2
  -- 128
  refine wb_cons (ws_set 9 nd rfl (by walk_at "vis") ?_)
  refine we_bin ?_
  refine we_cal c_law_take hr rfl ?_
  refine wa_cons ?_
  refine we_var 1 rfl (by walk_at "vis") rfl ?_
  refine ⟨_, _, rfl, ?_⟩
  refine wa_cons ?_
  refine we_int ?_
  refine ⟨_, _, rfl, ?_⟩
  refine wa_nil ?_
  refine ⟨G, b, g, 40, rfl, hb6, ⟨by decide, by decide⟩, fun c1 G7 hc10 hc11 hb7 => ?_⟩
  refine we_int ?_
  refine ⟨_, _, .inl rfl, .inl rfl, ?_⟩
  refine opw_sub ?_
  refine ⟨lt_ rfl, _, rfl, ?_⟩
  -- 129
  refine wb_cons (ws_set 10 nd rfl (by walk_at "vis") ?_)
  refine we_bin ?_
  refine we_var 9 rfl (by walk_at "vis") rfl ?_
  refine we_cal c_law_take hr rfl ?_
  refine wa_cons ?_
  refine we_var 1 rfl (by walk_at "vis") rfl ?_
  refine ⟨_, _, rfl, ?_⟩
  refine wa_cons ?_
  refine we_int ?_
  refine ⟨_, _, rfl, ?_⟩
  refine wa_nil ?_
  refine ⟨G, b, g, 25, rfl, hb7, ⟨by decide, by decide⟩, fun c2 G8 hc20 hc21 hb8 => ?_⟩
  refine ⟨_, _, .inl rfl, .inl rfl, ?_⟩
  refine opw_add ?_
  refine ⟨lt_ rfl, _, rfl, ?_⟩
  -- 130
  refine wb_cons (ws_set 11 nd rfl (by walk_at "vis") ?_)
  refine we_cal c_best_shift hr rfl ?_
  refine wa_cons ?_
  refine we_var 2 rfl (by walk_at "vis") rfl ?_
  refine ⟨_, _, rfl, ?_⟩
  refine wa_cons ?_
  refine we_var 3 rfl (by walk_at "vis") rfl ?_
  refine ⟨_, _, rfl, ?_⟩
  refine wa_cons ?_
  refine we_var 9 rfl (by walk_at "vis") rfl ?_
  refine ⟨_, _, rfl, ?_⟩
  refine wa_cons ?_
  refine we_var 10 rfl (by walk_at "vis") rfl ?_
  refine ⟨_, _, rfl, ?_⟩
  refine wa_nil ?_
  refine ⟨A0, B0, e1, e2, (c1 - 20), (c1 - 20 + c2), rfl, hA, hB, ⟨by omega, by omega, by omega⟩, fun v v1 v2 v3 v4 => ?_⟩
  have hbest : Best (fun s => (jsM A0 B0 s).length) (c1 - 20) (c1 - 20 + c2) v := ⟨v1, v2, v3, v4⟩
  refine ⟨lt_ rfl, _, rfl, ?_⟩
  -- 131
  refine wb_cons (ws_set 12 nd rfl (by walk_at "vis") ?_)
  refine we_bin ?_
  refine we_var 9 rfl (by walk_at "vis") rfl ?_
  refine we_cal c_law_take hr rfl ?_
  refine wa_cons ?_
  refine we_var 1 rfl (by walk_at "vis") rfl ?_
  refine ⟨_, _, rfl, ?_⟩
  refine wa_cons ?_
  refine we_bin ?_
  refine we_bin ?_
  refine we_var 10 rfl (by walk_at "vis") rfl ?_
  refine we_var 9 rfl (by walk_at "vis") rfl ?_
  refine ⟨_, _, .inl rfl, .inl rfl, ?_⟩
  refine opw_sub ?_
  refine we_int ?_
  refine ⟨_, _, .inl rfl, .inl rfl, ?_⟩
  refine opw_add ?_
  refine ⟨_, _, rfl, ?_⟩
  refine wa_nil ?_
  refine ⟨G, b, g, (c1 - 20 + c2) - (c1 - 20) + 1, rfl, hb8, ⟨by omega, by omega⟩, fun c3 G9 hc30 hc31 hb9 => ?_⟩
  refine ⟨_, _, .inl rfl, .inl rfl, ?_⟩
  refine opw_add ?_
  refine ⟨lt_ rfl, _, rfl, ?_⟩
  -- 132
  refine wb_cons (ws_set 13 nd rfl (by walk_at "vis") ?_)
  refine we_lst ?_
  refine wa_cons ?_
  refine we_cal c_best_shift hr rfl ?_
  refine wa_cons ?_
  refine we_var 2 rfl (by walk_at "vis") rfl ?_
  refine ⟨_, _, rfl, ?_⟩
  refine wa_cons ?_
  refine we_var 3 rfl (by walk_at "vis") rfl ?_
  refine ⟨_, _, rfl, ?_⟩
  refine wa_cons ?_
  refine we_var 9 rfl (by walk_at "vis") rfl ?_
  refine ⟨_, _, rfl, ?_⟩
  refine wa_cons ?_
  refine we_var 12 rfl (by walk_at "vis") rfl ?_
  refine ⟨_, _, rfl, ?_⟩
  refine wa_nil ?_
  refine ⟨A0, B0, e1, e2, (c1 - 20), (c1 - 20 + c3), rfl, hA, hB, ⟨by omega, by omega, by omega⟩, fun u u1 u2 u3 u4 => ?_⟩
  have hu : Best (fun s => (jsM A0 B0 s).length) (c1 - 20) (c1 - 20 + c3) u := ⟨u1, u2, u3, u4⟩
  refine ⟨_, _, rfl, ?_⟩
  refine wa_nil ?_
  refine ⟨lt_ rfl, ?_⟩
  refine ⟨lt_ rfl, _, rfl, ?_⟩
  -- 133
  refine wb_cut (fun r G' => G' = G9 ∧ ∃ ps : List Int, ((∃ v1, ps = [v1] ∧ (c1 - 20 + c3) = (c1 - 20 + c2) ∧ Best (fun s => (jsM A0 B0 s).length) (c1 - 20) (c1 - 20 + c3) v1) ∨ ∃ v1 v2, ps = [v1, v2] ∧ Best (fun s => (jsM A0 B0 s).length) (c1 - 20) (c1 - 20 + c3) v1 ∧ Best (fun s => (jsM A0 B0 s).length) ((c1 - 20 + c3) + 1) (c1 - 20 + c2) v2 ∧ (c1 - 20 + c3) < (c1 - 20 + c2) ∧ (c1 - 20) ≤ (c1 - 20 + c3)) ∧ ps.length ≤ 2 ∧ (∀ s ∈ ps, -300 ≤ s ∧ s ≤ 300) ∧ r = [.sh (.adr a), .sh (.adr b), .sh (rulD C A0 e1), .sh (rulD C B0 e2), z4, z5, z6, z7, z8, .sh (.int (c1 - 20)), .sh (.int (c1 - 20 + c2)), .sh (.int v), .sh (.int (c1 - 20 + c3)), .own (.lst (ps.map D.int)), .no, .no, z16, z17]) (ws_if ?_) ?_
  · skip
    refine wt_cmp (nomark _) ?_
    refine we_var 12 rfl (by walk_at "vis") rfl ?_
    refine we_var 10 rfl (by walk_at "vis") rfl ?_
    refine ⟨_, _, .inl rfl, .inl rfl, ?_⟩
    refine opw_lt ?_
    refine ⟨_, rfl, fun hd => ?_, fun hd => ?_⟩
    · skip
      -- 134
      refine wb_cons (ws_expr ?_)
      refine we_append ?_
      refine we_var 13 rfl (by walk_at "vis") rfl ?_
      refine ⟨_, _, rfl, rfl, ?_⟩
      refine we_cal c_best_shift hr rfl ?_
      refine wa_cons ?_
      refine we_var 2 rfl (by walk_at "vis") rfl ?_
      refine ⟨_, _, rfl, ?_⟩
      refine wa_cons ?_
      refine we_var 3 rfl (by walk_at "vis") rfl ?_
      refine ⟨_, _, rfl, ?_⟩
      refine wa_cons ?_
      refine we_bin ?_
      refine we_var 12 rfl (by walk_at "vis") rfl ?_
      refine we_int ?_
      refine ⟨_, _, .inl rfl, .inl rfl, ?_⟩
      refine opw_add ?_
      refine ⟨_, _, rfl, ?_⟩
      refine wa_cons ?_
      refine we_var 10 rfl (by walk_at "vis") rfl ?_
      refine ⟨_, _, rfl, ?_⟩
      refine wa_nil ?_
      refine ⟨A0, B0, e1, e2, (c1 - 20 + c3) + 1, (c1 - 20 + c2), rfl, hA, hB, ⟨by omega, by have := of_decide_eq_true hd; omega, by omega⟩, fun t t1 t2 t3 t4 => ?_⟩
      refine ⟨_, _, _, rfl, rfl, lt_ rfl, ?_⟩
      exact wb_nil (⟨rfl, [u, t], .inr ⟨u, t, rfl, hu, ⟨t1, t2, t3, t4⟩, of_decide_eq_true hd, by omega⟩, Nat.le_refl 2, fun s hs => by
        rcases List.mem_cons.mp hs with rfl | hs
        · omega
        · cases List.mem_singleton.mp hs; omega, rfl⟩)
    exact wb_nil (⟨rfl, [u], .inl ⟨u, rfl, by have := of_decide_eq_false hd; omega, hu⟩, Nat.le_succ 1, fun s hs => by cases List.mem_singleton.mp hs; omega, rfl⟩)
  rintro r4 G4 ⟨h1, ps, hps, hpl, hpr, h2⟩
  subst h1 h2
  -- 135
  refine wb_cons (ws_setLcL [("_law_shift", 4)] 14 rfl nd rfl rfl (by rfl) (blkOk_by (by rfl)) ?_)
  refine we_var 13 rfl (by walk_at "vis") rfl ?_
  refine ⟨_, _, rfl, fun i acc r G' => G' = G4 ∧ acc = ((ps.take i).map fun s => (((jsM A0 B0 s).length : Nat) : Int)).map D.int ∧ r = [.sh (.adr a), .sh (.adr b), .sh (rulD C A0 e1), .sh (rulD C B0 e2), .no, z5, z6, z7, z8, .sh (.int (c1 - 20)), .sh (.int (c1 - 20 + c2)), .sh (.int v), .sh (.int (c1 - 20 + c3)), .sh (.lst (ps.map D.int)), .no, .no, z16, z17], ⟨rfl, rfl, rfl⟩, fun i d acc r5 G5 hi ⟨h1, h2, h3⟩ => ?_, fun acc r5 G5 ⟨h1, h2, h3⟩ => ?_⟩
  · subst h1 h2 h3
    obtain ⟨o, hio, rfl⟩ := ints_get hi
    rintro Y ⟨s1, H1, C1, cl, fp, rfl⟩
    refine wg_name 4 nd rfl (by walk_at "vis") (by decide) (lt_ rfl) ?_
    rintro Y ⟨s1, H1, C1, cl, fp, rfl⟩
    refine we_b1 (x := "len") (id := "len") rfl B.len bt_len ?_
    refine we_cal c_joint_spans hr rfl ?_
    refine wa_cons ?_
    refine we_var 2 rfl (by walk_at "vis") rfl ?_
    refine ⟨_, _, rfl, ?_⟩
    refine wa_cons ?_
    refine we_var 3 rfl (by walk_at "vis") rfl ?_
    refine ⟨_, _, rfl, ?_⟩
    refine wa_cons ?_
    refine we_var 4 rfl (by walk_at "vis") rfl ?_
    refine ⟨_, _, rfl, ?_⟩
    refine wa_nil ?_
    refine ⟨A0, B0, e1, e2, o, rfl, hA, hB, hpr o (List.mem_of_getElem? hio), ?_⟩
    refine ⟨_, .inl rfl, ?_⟩
    refine c_len ?_
    refine ⟨_, _, rfl, ?_, rfl, ?_, rfl⟩
    · rw [List.length_map, List.length_map, List.length_take]; unfold LIM; omega
    · rw [map_snoc _ hio, List.map_append, List.length_map]; rfl
  subst h1 h2 h3
  rw [List.length_map, List.take_length]
  refine ⟨lt_ rfl, ?_⟩
  have hpn : (ps.map fun s => (((jsM A0 B0 s).length : Nat) : Int)) ≠ [] := by
    rcases hps with ⟨v1, rfl, _⟩ | ⟨v1, v2, rfl, _⟩ <;> simp
  -- 136
  refine wb_cons (ws_if ?_)
  refine wt_w (ww_or ?_)
  refine wt_cmp (nomark _) ?_
  refine we_var 11 rfl (by walk_at "vis") rfl ?_
  refine we_ix (fun _ _ => rfl) ?_
  refine we_var 13 rfl (by walk_at "vis") rfl ?_
  refine we_index ?_
  refine we_var 14 rfl (by walk_at "vis") rfl ?_
  refine ⟨_, .inl rfl, ?_⟩
  refine we_b1 (x := "max") (id := "max") rfl B.max bt_max ?_
  refine we_var 14 rfl (by walk_at "vis") rfl ?_
  refine ⟨_, .inl rfl, ?_⟩
  refine c_maxL rfl (hpn) ?_
  intro m hm1 hm2
  obtain ⟨j, hj1, hj2, hj3, hj4⟩ := hbest.parts hps hm1 hm2
  refine ⟨_, _, .inl rfl, .inl rfl, ?_⟩
  refine mw_index hj2 hj3 ?_
  refine ⟨_, _, .inl rfl, .inl rfl, ?_⟩
  refine ixw_lst (atD_nat (by rw [List.getElem?_map, hj1]; rfl)) ?_
  refine ⟨_, _, .inl rfl, .inl rfl, ?_⟩
  refine opw_neI ?_
  refine ⟨_, rfl, fun _ => ?_, fun hd => absurd hd (by simp)⟩
  refine ww_or1 ?_
  refine wt_cmp (nomark _) ?_
  refine we_b1 (x := "len") (id := "len") rfl B.len bt_len ?_
  refine we_cal c_joint_spans hr rfl ?_
  refine wa_cons ?_
  refine we_var 2 rfl (by walk_at "vis") rfl ?_
  refine ⟨_, _, rfl, ?_⟩
  refine wa_cons ?_
  refine we_var 3 rfl (by walk_at "vis") rfl ?_
  refine ⟨_, _, rfl, ?_⟩
  refine wa_cons ?_
  refine we_var 11 rfl (by walk_at "vis") rfl ?_
  refine ⟨_, _, rfl, ?_⟩
  refine wa_nil ?_
  refine ⟨A0, B0, e1, e2, v, rfl, hA, hB, ⟨by omega, by omega⟩, ?_⟩
  refine ⟨_, .inl rfl, ?_⟩
  refine c_len ?_
  refine we_b1 (x := "max") (id := "max") rfl B.max bt_max ?_
  refine we_var 14 rfl (by walk_at "vis") rfl ?_
  refine ⟨_, .inl rfl, ?_⟩
  refine c_maxL rfl (hpn) ?_
  intro m' hm1' hm2'
  obtain ⟨j', _, _, _, hj4'⟩ := hbest.parts hps hm1' hm2'
  refine ⟨_, _, .inl rfl, .inl rfl, ?_⟩
  refine opw_neI ?_
  refine ⟨_, rfl, fun hd => absurd hd (by rw [List.length_map, ← hj4']; simp), fun _ => ?_⟩
  refine wb_nil ?_
  -- 138
  refine wb_cons (ws_set 15 nd rfl (by walk_at "vis") ?_)
  refine we_cal c_joint_spans hr rfl ?_
  refine wa_cons ?_
  refine we_var 2 rfl (by walk_at "vis") rfl ?_
  refine ⟨_, _, rfl, ?_⟩
  refine wa_cons ?_
  refine we_var 2 rfl (by walk_at "vis") rfl ?_
  refine ⟨_, _, rfl, ?_⟩
  refine wa_cons ?_
  refine we_int ?_
  refine ⟨_, _, rfl, ?_⟩
  refine wa_nil ?_
  refine ⟨A0, A0, e1, e1, 0, rfl, hA, hA, ⟨by decide, by decide⟩, ?_⟩
  rw [js_alone hA.asc]
  refine ⟨lt_ rfl, _, rfl, ?_⟩
  -- 139
  refine wb_cons (ws_if ?_)
  refine wt_w (ww_or ?_)
  refine wt_cmp (nomark _) ?_
  refine we_var 15 rfl (by walk_at "vis") rfl ?_
  refine we_t1 (x := "list") (id := "list") rfl B.list bt_list ?_
  refine we_prop R.cls p_spans hr ?_
  refine we_var 2 rfl (by walk_at "vis") rfl ?_
  refine ⟨_, rfl, A0, e1, rfl, by omega, ?_⟩
  refine ⟨_, .inl rfl, ?_⟩
  refine c_listT ?_
  refine ⟨_, _, .inl rfl, .inl rfl, ?_⟩
  refine opw_neD (n := 1) hr.units (okD_ints _) (okD_ints _) (by decide) ?_
  rw [eqD_ints]
  refine ⟨_, rfl, fun _ => ?_, fun hd => absurd hd (by unfold spanM; simp)⟩
  refine ww_or1 ?_
  refine wt_cmp (nomark _) ?_
  refine we_cal c_best_shift hr rfl ?_
  refine wa_cons ?_
  refine we_var 2 rfl (by walk_at "vis") rfl ?_
  refine ⟨_, _, rfl, ?_⟩
  refine wa_cons ?_
  refine we_var 2 rfl (by walk_at "vis") rfl ?_
  refine ⟨_, _, rfl, ?_⟩
  refine wa_cons ?_
  refine we_int ?_
  refine ⟨_, _, rfl, ?_⟩
  refine wa_cons ?_
  refine we_int ?_
  refine ⟨_, _, rfl, ?_⟩
  refine wa_nil ?_
  refine ⟨A0, A0, e1, e1, 0, 0, rfl, hA, hA, ⟨by decide, by decide, by decide⟩, fun t t1 t2 _ _ => ?_⟩
  obtain rfl : t = 0 := by omega
  refine we_int ?_
  refine ⟨_, _, .inl rfl, .inl rfl, ?_⟩
  refine opw_neI ?_
  refine ⟨_, rfl, fun hd => absurd (show false = true from hd) Bool.false_ne_true, fun _ => ?_⟩
  refine wb_nil ?_
  -- 141
  refine wb_cons (ws_ret ?_)
  refine we_cmp (nomark _) ?_
  refine we_ix (fun _ _ => rfl) ?_
  refine we_cal c_joint_spans hr rfl ?_
  refine wa_cons ?_
  refine we_var 2 rfl (by walk_at "vis") rfl ?_
  refine ⟨_, _, rfl, ?_⟩
  refine wa_cons ?_
  refine we_var 3 rfl (by walk_at "vis") rfl ?_
  refine ⟨_, _, rfl, ?_⟩
  refine wa_cons ?_
  refine we_int ?_
  refine ⟨_, _, rfl, ?_⟩
  refine wa_nil ?_
  refine ⟨A0, B0, e1, e2, 300, rfl, hA, hB, ⟨by decide, by decide⟩, ?_⟩
  have h300 := js300 hA hB
  refine we_un rfl ?_
  refine we_int ?_
  refine ⟨_, rfl, ?_⟩
  refine ⟨_, _, .inl rfl, .inl rfl, ?_⟩
  refine ixw_lst (atD_last h300.2) ?_
  refine we_bin ?_
  refine we_int ?_
  refine we_prop R.cls p_length hr ?_
  refine we_var 3 rfl (by walk_at "vis") rfl ?_
  refine ⟨_, rfl, B0, e2, rfl, hB.ne, ?_⟩
  refine ⟨_, _, .inl rfl, .inl rfl, ?_⟩
  refine opw_add ?_
  refine ⟨_, _, .inl rfl, .inl rfl, ?_⟩
  refine opw_eqI ?_
  refine ⟨_, rfl, ?_⟩
  rw [show (jsM A0 B0 300).getLast?.getD 0 = 300 + B0.getLast?.getD 0 from h300.1, show decide (300 + B0.getLast?.getD 0 = 300 + B0.getLast?.getD 0) = true from decide_eq_true rfl]
  exact hq _

theorem law_sp {K : PySem.W.Frag} {H : Hp} {a : Addr} {ns : List Int} (hS : SqL K H a (ns.map V.int)) : spD K (lawF K) [.ref a] H (fun v _ => v = .bl true) fun _ _ _ => False :=
  ⟨fun _ => none, H, [.adr a], fun x _ => x = .sh (.bl true), (fun _ _ h => nomatch h), Ex.refl _, fun _ _ _ => rfl, ⟨_, _, rfl, rfl, rfl⟩, ⟨a, ns, rfl, hS, fun _ => rfl⟩, fun x G' v H' F' hp B rt => by subst hp; exact rt⟩

theorem all_mk {l : PySem.W.OpenLaw} {w : World} {K : PySem.W.Frag} {h : Heap} {mg : Str → Option Value} {fa : Addr} (X : K.In h) (G : h.Ns mainGlobals mg) (hfa : mg "law" = some (.ref fa))
    {t_MIN_MARKS : Tok} {t_MAX_MARKS : Tok} {t_MAX_LENGTH : Tok} {t_MAX_ERROR : Tok} {t_MAX_SHIFT : Tok} {C_Ruler : Addr} {q_Ruler_own_error : Addr} {q_Ruler_own_marks : Addr} {f_Ruler_init : Addr} {oc1 kV1 dc1 pm1 cd1 ct1 : Value} {od1 an1 : Option Addr} {sl1 : Array (Option Value)} {f_Ruler_marks : Addr} {p_Ruler_marks : Addr} {r_Ruler_marks : List Value} {oc2 kV2 dc2 pm2 cd2 ct2 : Value} {od2 an2 : Option Addr} {sl2 : Array (Option Value)} {f_Ruler_length : Addr} {p_Ruler_length : Addr} {r_Ruler_length : List Value} {oc3 kV3 dc3 pm3 cd3 ct3 : Value} {od3 an3 : Option Addr} {sl3 : Array (Option Value)} {f_Ruler_spans : Addr} {p_Ruler_spans : Addr} {r_Ruler_spans : List Value} {oc4 kV4 dc4 pm4 cd4 ct4 : Value} {od4 an4 : Option Addr} {sl4 : Array (Option Value)} {f_Ruler_turned : Addr} {oc5 kV5 dc5 pm5 cd5 ct5 : Value} {od5 an5 : Option Addr} {sl5 : Array (Option Value)} {f_is_number : Addr} {oc6 kV6 dc6 pm6 cd6 ct6 : Value} {od6 an6 : Option Addr} {sl6 : Array (Option Value)} {f_spread_of : Addr} {oc7 kV7 dc7 pm7 cd7 ct7 : Value} {od7 an7 : Option Addr} {sl7 : Array (Option Value)} {f_mirrored : Addr} {oc8 kV8 dc8 pm8 cd8 ct8 : Value} {od8 an8 : Option Addr} {sl8 : Array (Option Value)} {f_spans_at : Addr} {oc9 kV9 dc9 pm9 cd9 ct9 : Value} {od9 an9 : Option Addr} {sl9 : Array (Option Value)} {f_joint_spans : Addr} {oc10 kV10 dc10 pm10 cd10 ct10 : Value} {od10 an10 : Option Addr} {sl10 : Array (Option Value)} {f_best_shift : Addr} {oc11 kV11 dc11 pm11 cd11 ct11 : Value} {od11 an11 : Option Addr} {sl11 : Array (Option Value)} {f_law_begun : Addr} {oc12 kV12 dc12 pm12 cd12 ct12 : Value} {od12 an12 : Option Addr} {sl12 : Array (Option Value)} {f_law_take : Addr} {oc13 kV13 dc13 pm13 cd13 ct13 : Value} {od13 an13 : Option Addr} {sl13 : Array (Option Value)} {f_law_marks : Addr} {oc14 kV14 dc14 pm14 cd14 ct14 : Value} {od14 an14 : Option Addr} {sl14 : Array (Option Value)} {f_law_ruler : Addr} {oc15 kV15 dc15 pm15 cd15 ct15 : Value} {od15 an15 : Option Addr} {sl15 : Array (Option Value)} {f_law_different : Addr} {oc16 kV16 dc16 pm16 cd16 ct16 : Value} {od16 an16 : Option Addr} {sl16 : Array (Option Value)} {f_law : Addr} {oc17 kV17 dc17 pm17 cd17 ct17 : Value} {od17 an17 : Option Addr} {sl17 : Array (Option Value)}
    (z_int : PySem.W.nsIn K mainGlobals "int" = some none)
    (z_len : PySem.W.nsIn K mainGlobals "len" = some none)
    (z_list : PySem.W.nsIn K mainGlobals "list" = some none)
    (z_range : PySem.W.nsIn K mainGlobals "range" = some none)
    (z_sorted : PySem.W.nsIn K mainGlobals "sorted" = some none)
    (z_tuple : PySem.W.nsIn K mainGlobals "tuple" = some none)
    (z_dict : PySem.W.nsIn K mainGlobals "dict" = some none)
    (z_isinstance : PySem.W.nsIn K mainGlobals "isinstance" = some none)
    (z_bool : PySem.W.nsIn K mainGlobals "bool" = some none)
    (z_str : PySem.W.nsIn K mainGlobals "str" = some none)
    (z_enumerate : PySem.W.nsIn K mainGlobals "enumerate" = some none)
    (z_reversed : PySem.W.nsIn K mainGlobals "reversed" = some none)
    (z_abs : PySem.W.nsIn K mainGlobals "abs" = some none)
    (z_min : PySem.W.nsIn K mainGlobals "min" = some none)
    (z_max : PySem.W.nsIn K mainGlobals "max" = some none)
    (z_sum : PySem.W.nsIn K mainGlobals "sum" = some none)
    (g_MIN_MARKS : PySem.W.nsIn K mainGlobals "MIN_MARKS" = some (some (.int 2 t_MIN_MARKS)))
    (g_MAX_MARKS : PySem.W.nsIn K mainGlobals "MAX_MARKS" = some (some (.int 12 t_MAX_MARKS)))
    (g_MAX_LENGTH : PySem.W.nsIn K mainGlobals "MAX_LENGTH" = some (some (.int 300 t_MAX_LENGTH)))
    (g_MAX_ERROR : PySem.W.nsIn K mainGlobals "MAX_ERROR" = some (some (.int 9 t_MAX_ERROR)))
    (g_MAX_SHIFT : PySem.W.nsIn K mainGlobals "MAX_SHIFT" = some (some (.int 300 t_MAX_SHIFT)))
    (g_Ruler : PySem.W.nsIn K mainGlobals "Ruler" = some (some (.ref C_Ruler)))
    (pg_Ruler : PySem.W.plainGet K C_Ruler Str.empty = true)
    (ic_Ruler : PySem.W.isClsIn K C_Ruler = true)
    (po_Ruler : PySem.W.plainOver K C_Ruler = true)
    (sa_Ruler : PySem.W.findIn K (.ref C_Ruler) "__setattr__" = some (some (.builtin "object.__setattr__")))
    (ca_Ruler : PySem.W.findIn K (.ref C_Ruler) "__class__" = some (some (.builtin "object.__class__")))
    (cn_Ruler : PySem.W.specialIn K (.builtin "object.__class__") "__get__" = some (some (.builtin "getset_descriptor.__get__")))
    (ct_Ruler : PySem.W.takesIn K (.builtin "object.__class__") = some true)
    (cm_Ruler : PySem.W.mroIn K C_Ruler (.type "object") = some true)
    (sa_Ruler_own_error : PySem.W.findIn K (.ref C_Ruler) "own_error" = some (some (.ref q_Ruler_own_error)))
    (sg_Ruler_own_error : PySem.W.specialIn K (.ref q_Ruler_own_error) "__get__" = some (some (.builtin "member_descriptor.__get__")))
    (sk_Ruler_own_error : PySem.W.takesIn K (.ref q_Ruler_own_error) = some true)
    (sy_Ruler_own_error : PySem.W.typeIn K (.ref q_Ruler_own_error) = some (.type "member_descriptor"))
    (sx_Ruler_own_error : PySem.W.slotIn K q_Ruler_own_error C_Ruler = some 0)
    (sa_Ruler_own_marks : PySem.W.findIn K (.ref C_Ruler) "own_marks" = some (some (.ref q_Ruler_own_marks)))
    (sg_Ruler_own_marks : PySem.W.specialIn K (.ref q_Ruler_own_marks) "__get__" = some (some (.builtin "member_descriptor.__get__")))
    (sk_Ruler_own_marks : PySem.W.takesIn K (.ref q_Ruler_own_marks) = some true)
    (sy_Ruler_own_marks : PySem.W.typeIn K (.ref q_Ruler_own_marks) = some (.type "member_descriptor"))
    (sx_Ruler_own_marks : PySem.W.slotIn K q_Ruler_own_marks C_Ruler = some 1)
    (ty_Ruler : PySem.W.typeIn K (.ref C_Ruler) = some (.type "type"))
    (nf_Ruler_Ruler : PySem.W.notFirst K C_Ruler (.ref C_Ruler) = true)
    (su_Ruler_tuple : PySem.W.subIn K (.type "tuple") (.ref C_Ruler) = some false)
    (nt_Ruler_tuple : PySem.W.notFirst K C_Ruler (.type "tuple") = true)
    (mk_Ruler : PySem.W.makesIn K C_Ruler = true)
    (kc_Ruler : PySem.W.keepIn K (.ref C_Ruler) = true)
    (at_Ruler_init : PySem.W.findIn K (.ref C_Ruler) "__init__" = some (some (.ref f_Ruler_init)))
    (fn_Ruler_init : PySem.W.isFn K (.ref f_Ruler_init) = true)
    (l_Ruler_init : K.lookup f_Ruler_init = some ⟨oc1, od1, .func (PySem.W.fnOf "__init__" "Ruler.__init__" (defArgs s_Ruler_init) (defBody s_Ruler_init) (defScope s_Ruler_init) .none kV1 dc1 pm1 an1 cd1 ct1), sl1⟩)
    (c_Ruler_init : PySem.W.codeIn K cd1 "Ruler.__init__" = true)
    (kp_Ruler_init : PySem.W.keepIn K (.ref f_Ruler_init) = true)
    (at_Ruler_marks : PySem.W.findIn K (.ref C_Ruler) "marks" = some (some (.ref p_Ruler_marks)))
    (sp_Ruler_marks : PySem.W.specialIn K (.ref p_Ruler_marks) "__get__" = some (some (.builtin "property.__get__")))
    (tk_Ruler_marks : PySem.W.takesIn K (.ref p_Ruler_marks) = some true)
    (rc_Ruler_marks : PySem.W.recIn K p_Ruler_marks "property" = some (.ref f_Ruler_marks :: r_Ruler_marks))
    (l_Ruler_marks : K.lookup f_Ruler_marks = some ⟨oc2, od2, .func (PySem.W.fnOf "marks" "Ruler.marks" (defArgs s_Ruler_marks) (defBody s_Ruler_marks) (defScope s_Ruler_marks) .none kV2 dc2 pm2 an2 cd2 ct2), sl2⟩)
    (c_Ruler_marks : PySem.W.codeIn K cd2 "Ruler.marks" = true)
    (kp_Ruler_marks : PySem.W.keepIn K (.ref f_Ruler_marks) = true)
    (at_Ruler_length : PySem.W.findIn K (.ref C_Ruler) "length" = some (some (.ref p_Ruler_length)))
    (sp_Ruler_length : PySem.W.specialIn K (.ref p_Ruler_length) "__get__" = some (some (.builtin "property.__get__")))
    (tk_Ruler_length : PySem.W.takesIn K (.ref p_Ruler_length) = some true)
    (rc_Ruler_length : PySem.W.recIn K p_Ruler_length "property" = some (.ref f_Ruler_length :: r_Ruler_length))
    (l_Ruler_length : K.lookup f_Ruler_length = some ⟨oc3, od3, .func (PySem.W.fnOf "length" "Ruler.length" (defArgs s_Ruler_length) (defBody s_Ruler_length) (defScope s_Ruler_length) .none kV3 dc3 pm3 an3 cd3 ct3), sl3⟩)
    (c_Ruler_length : PySem.W.codeIn K cd3 "Ruler.length" = true)
    (kp_Ruler_length : PySem.W.keepIn K (.ref f_Ruler_length) = true)
    (at_Ruler_spans : PySem.W.findIn K (.ref C_Ruler) "spans" = some (some (.ref p_Ruler_spans)))
    (sp_Ruler_spans : PySem.W.specialIn K (.ref p_Ruler_spans) "__get__" = some (some (.builtin "property.__get__")))
    (tk_Ruler_spans : PySem.W.takesIn K (.ref p_Ruler_spans) = some true)
    (rc_Ruler_spans : PySem.W.recIn K p_Ruler_spans "property" = some (.ref f_Ruler_spans :: r_Ruler_spans))
    (l_Ruler_spans : K.lookup f_Ruler_spans = some ⟨oc4, od4, .func (PySem.W.fnOf "spans" "Ruler.spans" (defArgs s_Ruler_spans) (defBody s_Ruler_spans) (defScope s_Ruler_spans) .none kV4 dc4 pm4 an4 cd4 ct4), sl4⟩)
    (c_Ruler_spans : PySem.W.codeIn K cd4 "Ruler.spans" = true)
    (kp_Ruler_spans : PySem.W.keepIn K (.ref f_Ruler_spans) = true)
    (at_Ruler_turned : PySem.W.findIn K (.ref C_Ruler) "turned" = some (some (.ref f_Ruler_turned)))
    (fn_Ruler_turned : PySem.W.isFn K (.ref f_Ruler_turned) = true)
    (l_Ruler_turned : K.lookup f_Ruler_turned = some ⟨oc5, od5, .func (PySem.W.fnOf "turned" "Ruler.turned" (defArgs s_Ruler_turned) (defBody s_Ruler_turned) (defScope s_Ruler_turned) .none kV5 dc5 pm5 an5 cd5 ct5), sl5⟩)
    (c_Ruler_turned : PySem.W.codeIn K cd5 "Ruler.turned" = true)
    (kp_Ruler_turned : PySem.W.keepIn K (.ref f_Ruler_turned) = true)
    (a_is_number : PySem.W.nsIn K mainGlobals "is_number" = some (some (.ref f_is_number)))
    (l_is_number : K.lookup f_is_number = some ⟨oc6, od6, .func (PySem.W.fnOf "is_number" "is_number" (defArgs s_is_number) (defBody s_is_number) (defScope s_is_number) .none kV6 dc6 pm6 an6 cd6 ct6), sl6⟩)
    (c_is_number : PySem.W.codeIn K cd6 "is_number" = true)
    (kp_is_number : PySem.W.keepIn K (.ref f_is_number) = true)
    (a_spread_of : PySem.W.nsIn K mainGlobals "spread_of" = some (some (.ref f_spread_of)))
    (l_spread_of : K.lookup f_spread_of = some ⟨oc7, od7, .func (PySem.W.fnOf "spread_of" "spread_of" (defArgs s_spread_of) (defBody s_spread_of) (defScope s_spread_of) .none kV7 dc7 pm7 an7 cd7 ct7), sl7⟩)
    (c_spread_of : PySem.W.codeIn K cd7 "spread_of" = true)
    (kp_spread_of : PySem.W.keepIn K (.ref f_spread_of) = true)
    (a_mirrored : PySem.W.nsIn K mainGlobals "mirrored" = some (some (.ref f_mirrored)))
    (l_mirrored : K.lookup f_mirrored = some ⟨oc8, od8, .func (PySem.W.fnOf "mirrored" "mirrored" (defArgs s_mirrored) (defBody s_mirrored) (defScope s_mirrored) .none kV8 dc8 pm8 an8 cd8 ct8), sl8⟩)
    (c_mirrored : PySem.W.codeIn K cd8 "mirrored" = true)
    (kp_mirrored : PySem.W.keepIn K (.ref f_mirrored) = true)
    (a_spans_at : PySem.W.nsIn K mainGlobals "spans_at" = some (some (.ref f_spans_at)))
    (l_spans_at : K.lookup f_spans_at = some ⟨oc9, od9, .func (PySem.W.fnOf "spans_at" "spans_at" (defArgs s_spans_at) (defBody s_spans_at) (defScope s_spans_at) .none kV9 dc9 pm9 an9 cd9 ct9), sl9⟩)
    (c_spans_at : PySem.W.codeIn K cd9 "spans_at" = true)
    (kp_spans_at : PySem.W.keepIn K (.ref f_spans_at) = true)
    (a_joint_spans : PySem.W.nsIn K mainGlobals "joint_spans" = some (some (.ref f_joint_spans)))
    (l_joint_spans : K.lookup f_joint_spans = some ⟨oc10, od10, .func (PySem.W.fnOf "joint_spans" "joint_spans" (defArgs s_joint_spans) (defBody s_joint_spans) (defScope s_joint_spans) .none kV10 dc10 pm10 an10 cd10 ct10), sl10⟩)
    (c_joint_spans : PySem.W.codeIn K cd10 "joint_spans" = true)
    (kp_joint_spans : PySem.W.keepIn K (.ref f_joint_spans) = true)
    (a_best_shift : PySem.W.nsIn K mainGlobals "best_shift" = some (some (.ref f_best_shift)))
    (l_best_shift : K.lookup f_best_shift = some ⟨oc11, od11, .func (PySem.W.fnOf "best_shift" "best_shift" (defArgs s_best_shift) (defBody s_best_shift) (defScope s_best_shift) .none kV11 dc11 pm11 an11 cd11 ct11), sl11⟩)
    (c_best_shift : PySem.W.codeIn K cd11 "best_shift" = true)
    (kp_best_shift : PySem.W.keepIn K (.ref f_best_shift) = true)
    (a_law_begun : PySem.W.nsIn K mainGlobals "_law_begun" = some (some (.ref f_law_begun)))
    (l_law_begun : K.lookup f_law_begun = some ⟨oc12, od12, .func (PySem.W.fnOf "_law_begun" "_law_begun" (defArgs s_law_begun) (defBody s_law_begun) (defScope s_law_begun) .none kV12 dc12 pm12 an12 cd12 ct12), sl12⟩)
    (c_law_begun : PySem.W.codeIn K cd12 "_law_begun" = true)
    (kp_law_begun : PySem.W.keepIn K (.ref f_law_begun) = true)
    (a_law_take : PySem.W.nsIn K mainGlobals "_law_take" = some (some (.ref f_law_take)))
    (l_law_take : K.lookup f_law_take = some ⟨oc13, od13, .func (PySem.W.fnOf "_law_take" "_law_take" (defArgs s_law_take) (defBody s_law_take) (defScope s_law_take) .none kV13 dc13 pm13 an13 cd13 ct13), sl13⟩)
    (c_law_take : PySem.W.codeIn K cd13 "_law_take" = true)
    (kp_law_take : PySem.W.keepIn K (.ref f_law_take) = true)
    (a_law_marks : PySem.W.nsIn K mainGlobals "_law_marks" = some (some (.ref f_law_marks)))
    (l_law_marks : K.lookup f_law_marks = some ⟨oc14, od14, .func (PySem.W.fnOf "_law_marks" "_law_marks" (defArgs s_law_marks) (defBody s_law_marks) (defScope s_law_marks) .none kV14 dc14 pm14 an14 cd14 ct14), sl14⟩)
    (c_law_marks : PySem.W.codeIn K cd14 "_law_marks" = true)
    (kp_law_marks : PySem.W.keepIn K (.ref f_law_marks) = true)
    (a_law_ruler : PySem.W.nsIn K mainGlobals "_law_ruler" = some (some (.ref f_law_ruler)))
    (l_law_ruler : K.lookup f_law_ruler = some ⟨oc15, od15, .func (PySem.W.fnOf "_law_ruler" "_law_ruler" (defArgs s_law_ruler) (defBody s_law_ruler) (defScope s_law_ruler) .none kV15 dc15 pm15 an15 cd15 ct15), sl15⟩)
    (c_law_ruler : PySem.W.codeIn K cd15 "_law_ruler" = true)
    (kp_law_ruler : PySem.W.keepIn K (.ref f_law_ruler) = true)
    (a_law_different : PySem.W.nsIn K mainGlobals "_law_different" = some (some (.ref f_law_different)))
    (l_law_different : K.lookup f_law_different = some ⟨oc16, od16, .func (PySem.W.fnOf "_law_different" "_law_different" (defArgs s_law_different) (defBody s_law_different) (defScope s_law_different) .none kV16 dc16 pm16 an16 cd16 ct16), sl16⟩)
    (c_law_different : PySem.W.codeIn K cd16 "_law_different" = true)
    (kp_law_different : PySem.W.keepIn K (.ref f_law_different) = true)
    (a_law : PySem.W.nsIn K mainGlobals "law" = some (some (.ref f_law)))
    (l_law : K.lookup f_law = some ⟨oc17, od17, .func (PySem.W.fnOf "law" "law" (defArgs s_law) (defBody s_law) (defScope s_law) .none kV17 dc17 pm17 an17 cd17 ct17), sl17⟩)
    (c_law : PySem.W.codeIn K cd17 "law" = true)
    (kp_law : PySem.W.keepIn K (.ref f_law) = true) :
    ∃ fd : FuncData, (∀ (s : Shared) (v : Value), BindsTo s fd ⟨[v], []⟩ [("_law_script", v)]) ∧ ∀ base : Heap, K.In base → base.Ns mainGlobals mg → FnOk l.prog w K mg base CX0 8 fa fd ["_law_script"] (spD K (lawF K)) := by
  have efa := hfa.symm.trans (PySem.W.mg_of X G a_law)
  cases efa
  have mg_MIN_MARKS := PySem.W.mg_of X G g_MIN_MARKS
  have mg_MAX_MARKS := PySem.W.mg_of X G g_MAX_MARKS
  have mg_MAX_LENGTH := PySem.W.mg_of X G g_MAX_LENGTH
  have mg_MAX_ERROR := PySem.W.mg_of X G g_MAX_ERROR
  have mg_MAX_SHIFT := PySem.W.mg_of X G g_MAX_SHIFT
  have mg_Ruler := PySem.W.mg_of X G g_Ruler
  have cls_Ruler : SlX.SCls K C_Ruler := ⟨pg_Ruler, ic_Ruler, po_Ruler, sa_Ruler⟩
  have isi_Ruler : SlX.SIsi K C_Ruler := ⟨ca_Ruler, cn_Ruler, ct_Ruler, cm_Ruler⟩
  have slot_Ruler_own_error : SlX.Slot1 K C_Ruler "own_error" q_Ruler_own_error 0 := ⟨sa_Ruler_own_error, sg_Ruler_own_error, sk_Ruler_own_error, sy_Ruler_own_error, sx_Ruler_own_error, by decide⟩
  have slot_Ruler_own_marks : SlX.Slot1 K C_Ruler "own_marks" q_Ruler_own_marks 1 := ⟨sa_Ruler_own_marks, sg_Ruler_own_marks, sk_Ruler_own_marks, sy_Ruler_own_marks, sx_Ruler_own_marks, by decide⟩
  have F_Ruler_init := fun_mk (st := s_Ruler_init) l_Ruler_init c_Ruler_init kp_Ruler_init
  have b_Ruler_init := F_Ruler_init.binds (ps := ["self", "marks", "error"]) fun _ _ _ _ _ _ us hl => match us, hl with | [_, _, _], _ => rfl
  have F_Ruler_marks := fun_mk (st := s_Ruler_marks) l_Ruler_marks c_Ruler_marks kp_Ruler_marks
  have b_Ruler_marks := F_Ruler_marks.binds (ps := ["self"]) fun _ _ _ _ _ _ us hl => match us, hl with | [_], _ => rfl
  have F_Ruler_length := fun_mk (st := s_Ruler_length) l_Ruler_length c_Ruler_length kp_Ruler_length
  have b_Ruler_length := F_Ruler_length.binds (ps := ["self"]) fun _ _ _ _ _ _ us hl => match us, hl with | [_], _ => rfl
  have F_Ruler_spans := fun_mk (st := s_Ruler_spans) l_Ruler_spans c_Ruler_spans kp_Ruler_spans
  have b_Ruler_spans := F_Ruler_spans.binds (ps := ["self"]) fun _ _ _ _ _ _ us hl => match us, hl with | [_], _ => rfl
  have F_Ruler_turned := fun_mk (st := s_Ruler_turned) l_Ruler_turned c_Ruler_turned kp_Ruler_turned
  have b_Ruler_turned := F_Ruler_turned.binds (ps := ["self"]) fun _ _ _ _ _ _ us hl => match us, hl with | [_], _ => rfl
  have F_is_number := fun_mk (st := s_is_number) l_is_number c_is_number kp_is_number
  have b_is_number := F_is_number.binds (ps := ["value", "lowest", "highest"]) fun _ _ _ _ _ _ us hl => match us, hl with | [_, _, _], _ => rfl
  have mg_is_number := PySem.W.mg_of X G a_is_number
  have F_spread_of := fun_mk (st := s_spread_of) l_spread_of c_spread_of kp_spread_of
  have b_spread_of := F_spread_of.binds (ps := ["marks"]) fun _ _ _ _ _ _ us hl => match us, hl with | [_], _ => rfl
  have mg_spread_of := PySem.W.mg_of X G a_spread_of
  have F_mirrored := fun_mk (st := s_mirrored) l_mirrored c_mirrored kp_mirrored
  have b_mirrored := F_mirrored.binds (ps := ["marks"]) fun _ _ _ _ _ _ us hl => match us, hl with | [_], _ => rfl
  have mg_mirrored := PySem.W.mg_of X G a_mirrored
  have F_spans_at := fun_mk (st := s_spans_at) l_spans_at c_spans_at kp_spans_at
  have b_spans_at := F_spans_at.binds (ps := ["one", "other", "shift"]) fun _ _ _ _ _ _ us hl => match us, hl with | [_, _, _], _ => rfl
  have mg_spans_at := PySem.W.mg_of X G a_spans_at
  have F_joint_spans := fun_mk (st := s_joint_spans) l_joint_spans c_joint_spans kp_joint_spans
  have b_joint_spans := F_joint_spans.binds (ps := ["one", "other", "shift"]) fun _ _ _ _ _ _ us hl => match us, hl with | [_, _, _], _ => rfl
  have mg_joint_spans := PySem.W.mg_of X G a_joint_spans
  have F_best_shift := fun_mk (st := s_best_shift) l_best_shift c_best_shift kp_best_shift
  have b_best_shift := F_best_shift.binds (ps := ["one", "other", "lowest", "highest"]) fun _ _ _ _ _ _ us hl => match us, hl with | [_, _, _, _], _ => rfl
  have mg_best_shift := PySem.W.mg_of X G a_best_shift
  have F_law_begun := fun_mk (st := s_law_begun) l_law_begun c_law_begun kp_law_begun
  have b_law_begun := F_law_begun.binds (ps := ["_law_script"]) fun _ _ _ _ _ _ us hl => match us, hl with | [_], _ => rfl
  have mg_law_begun := PySem.W.mg_of X G a_law_begun
  have F_law_take := fun_mk (st := s_law_take) l_law_take c_law_take kp_law_take
  have b_law_take := F_law_take.binds (ps := ["_law_box", "_law_many"]) fun _ _ _ _ _ _ us hl => match us, hl with | [_, _], _ => rfl
  have mg_law_take := PySem.W.mg_of X G a_law_take
  have F_law_marks := fun_mk (st := s_law_marks) l_law_marks c_law_marks kp_law_marks
  have b_law_marks := F_law_marks.binds (ps := ["_law_box", "_law_most", "_law_length"]) fun _ _ _ _ _ _ us hl => match us, hl with | [_, _, _], _ => rfl
  have mg_law_marks := PySem.W.mg_of X G a_law_marks
  have F_law_ruler := fun_mk (st := s_law_ruler) l_law_ruler c_law_ruler kp_law_ruler
  have b_law_ruler := F_law_ruler.binds (ps := ["_law_box", "_law_most", "_law_length"]) fun _ _ _ _ _ _ us hl => match us, hl with | [_, _, _], _ => rfl
  have mg_law_ruler := PySem.W.mg_of X G a_law_ruler
  have F_law_different := fun_mk (st := s_law_different) l_law_different c_law_different kp_law_different
  have b_law_different := F_law_different.binds (ps := ["_law_values"]) fun _ _ _ _ _ _ us hl => match us, hl with | [_], _ => rfl
  have mg_law_different := PySem.W.mg_of X G a_law_different
  have F_law := fun_mk (st := s_law) l_law c_law kp_law
  have b_law := F_law.binds (ps := ["_law_script"]) fun _ _ _ _ _ _ us hl => match us, hl with | [_], _ => rfl
  have mg_law := PySem.W.mg_of X G a_law
  have B : Bn mg := ⟨PySem.W.mg_none_of X G z_int, PySem.W.mg_none_of X G z_len, PySem.W.mg_none_of X G z_list, PySem.W.mg_none_of X G z_range, PySem.W.mg_none_of X G z_sorted, PySem.W.mg_none_of X G z_tuple, PySem.W.mg_none_of X G z_dict, PySem.W.mg_none_of X G z_isinstance, PySem.W.mg_none_of X G z_bool, PySem.W.mg_none_of X G z_str, PySem.W.mg_none_of X G z_enumerate, PySem.W.mg_none_of X G z_reversed, PySem.W.mg_none_of X G z_abs, PySem.W.mg_none_of X G z_min, PySem.W.mg_none_of X G z_max, PySem.W.mg_none_of X G z_sum⟩
  refine ⟨PySem.W.fnOf "law" "law" (defArgs s_law) (defBody s_law) (defScope s_law) .none kV17 dc17 pm17 an17 cd17 ct17, fun s v => .of_eq rfl, fun base _ _ => ?_⟩
  have R : RulC K C_Ruler := ⟨cls_Ruler, isi_Ruler, ⟨_, slot_Ruler_own_marks⟩, ⟨_, slot_Ruler_own_error⟩, kit_same (by simp), kit_ref rfl ic_Ruler ty_Ruler su_Ruler_tuple, nf_Ruler_Ruler, nt_Ruler_tuple⟩
  have take : ∀ k, Cal l.prog w K mg base "_law_take" (k + 1) ["_law_box", "_law_many"] takeF := fun k => ⟨f_law_take, _, ok_law_take (k := k + 0) F_law_take B, mg_law_take, kp_law_take, b_law_take⟩
  have begun : ∀ k, Cal l.prog w K mg base "_law_begun" (k + 1) ["_law_script"] (begunF K) := fun k => ⟨f_law_begun, _, ok_law_begun (k := k + 0) F_law_begun B, mg_law_begun, kp_law_begun, b_law_begun⟩
  have marks : ∀ k, Cal l.prog w K mg base "_law_marks" (k + 2) ["_law_box", "_law_most", "_law_length"] marksF := fun k => ⟨f_law_marks, _, ok_law_marks (k := k + 1) F_law_marks B (take k), mg_law_marks, kp_law_marks, b_law_marks⟩
  have diff : ∀ k, Cal l.prog w K mg base "_law_different" (k + 1) ["_law_values"] diffF := fun k => ⟨f_law_different, _, ok_law_different (k := k + 0) F_law_different B, mg_law_different, kp_law_different, b_law_different⟩
  have num : ∀ k, Cal l.prog w K mg base "is_number" (k + 1) ["value", "lowest", "highest"] numF := fun k => ⟨f_is_number, _, ok_is_number (k := k + 0) F_is_number B, mg_is_number, kp_is_number, b_is_number⟩
  have sprd : ∀ k, Cal l.prog w K mg base "spread_of" (k + 1) ["marks"] spreadB := fun k => ⟨f_spread_of, _, ok_spread_of (k := k + 0) F_spread_of B, mg_spread_of, kp_spread_of, b_spread_of⟩
  have mirr : ∀ k, Cal l.prog w K mg base "mirrored" (k + 1) ["marks"] turnF := fun k => ⟨f_mirrored, _, ok_mirrored (k := k + 0) F_mirrored B, mg_mirrored, kp_mirrored, b_mirrored⟩
  have make : ∀ k, MakeD l.prog w K mg base "Ruler" C_Ruler (k + 2) ["self", "marks", "error"] rulI := fun k => ⟨f_Ruler_init, _, ⟨mk_Ruler, at_Ruler_init, fn_Ruler_init, kc_Ruler⟩, mg_Ruler, ok_Ruler_init (k := k + 1) F_Ruler_init B R mg_MIN_MARKS mg_MAX_MARKS mg_MAX_LENGTH mg_MAX_ERROR (num k), b_Ruler_init⟩
  have pm : ∀ k, PropD l.prog w K mg base C_Ruler "marks" (k + 1) (getF C_Ruler 1) := fun k => ⟨p_Ruler_marks, f_Ruler_marks, _, at_Ruler_marks, sp_Ruler_marks, tk_Ruler_marks, ⟨_, rc_Ruler_marks⟩, ok_Ruler_marks (k := k + 0) F_Ruler_marks R, b_Ruler_marks⟩
  have pl : ∀ k, PropD l.prog w K mg base C_Ruler "length" (k + 1) (lenF C_Ruler) := fun k => ⟨p_Ruler_length, f_Ruler_length, _, at_Ruler_length, sp_Ruler_length, tk_Ruler_length, ⟨_, rc_Ruler_length⟩, ok_Ruler_length (k := k + 0) F_Ruler_length R, b_Ruler_length⟩
  have pa : ∀ k, PropD l.prog w K mg base C_Ruler "spans" (k + 2) (spaF C_Ruler) := fun k => ⟨p_Ruler_spans, f_Ruler_spans, _, at_Ruler_spans, sp_Ruler_spans, tk_Ruler_spans, ⟨_, rc_Ruler_spans⟩, ok_Ruler_spans (k := k + 1) F_Ruler_spans B R (sprd k), b_Ruler_spans⟩
  have lrul : ∀ k, Cal l.prog w K mg base "_law_ruler" (k + 4) ["_law_box", "_law_most", "_law_length"] (drawF C_Ruler) := fun k => ⟨f_law_ruler, _, ok_law_ruler (k := k + 2) F_law_ruler (marks k) (take (k + 1)) (make k), mg_law_ruler, kp_law_ruler, b_law_ruler⟩
  have dt : ∀ k, MethD l.prog w K mg base C_Ruler "turned" (k + 4) ["self"] (tndF C_Ruler) := fun k => ⟨f_Ruler_turned, _, ⟨at_Ruler_turned, fn_Ruler_turned, kp_Ruler_turned⟩, ok_Ruler_turned (k := k + 2) F_Ruler_turned R (mirr (k + 1)) (make k), b_Ruler_turned⟩
  have spat : ∀ k, Cal l.prog w K mg base "spans_at" (k + 3) ["one", "other", "shift"] (spatF C_Ruler) := fun k => ⟨f_spans_at, _, ok_spans_at (k := k + 1) F_spans_at B R (sprd k) (pm k), mg_spans_at, kp_spans_at, b_spans_at⟩
  have join : ∀ k, Cal l.prog w K mg base "joint_spans" (k + 4) ["one", "other", "shift"] (jointF C_Ruler) := fun k => ⟨f_joint_spans, _, ok_joint_spans (k := k + 3) F_joint_spans mg_MAX_SHIFT (num (k + 2)) (spat k), mg_joint_spans, kp_joint_spans, b_joint_spans⟩
  have bsh : ∀ k, Cal l.prog w K mg base "best_shift" (k + 4) ["one", "other", "lowest", "highest"] (bshF C_Ruler) := fun k => ⟨f_best_shift, _, ok_best_shift (k := k + 3) F_best_shift B mg_MAX_SHIFT (num (k + 2)) (spat k), mg_best_shift, kp_best_shift, b_best_shift⟩
  exact ok_law (k := 6) F_law B R (begun 5) (take 5) (lrul 2) (diff 5) (join 2) (bsh 2) (pm 5) (pl 5) (pa 4) (dt 2)
theorem walk {l : PySem.W.OpenLaw} {q : Program} {loose : List Str} {XP : (Str → Option Value) → Heap → Prop} {YP : World → Heap → Prop} {d : DefRec} {K : Params → PySem.W.Frag} (hn : l.most = some 63) (hdf : d.params.defaults = [])
    (hY : ∀ (w : World) (h : Heap), YP w h → (K w.params).In h)
    (F : ∀ (w : World) (mg : Str → Option Value) (fa : Addr) (h : Heap), (K w.params).In h → h.Ns mainGlobals mg → mg d.name = some (.ref fa) →
      ∃ fd : FuncData, (∀ (s : Shared) (u : Value), BindsTo s fd ⟨[u], []⟩ [("_law_script", u)]) ∧ ∀ base : Heap, (K w.params).In base → base.Ns mainGlobals mg → FnOk l.prog w (K w.params) mg base CX0 8 fa fd ["_law_script"] (spD (K w.params) (lawF (K w.params)))) :
    PySem.W.WalkO q loose XP YP l.row.toRowW d [] (fun f vs => PySem.call f vs) :=
  L2.walk_of (n := 63) (k := 8) (x := "_law_script") (CX := fun _ => CX0) (sp := fun w => spD (K w.params) (lawF (K w.params))) hn (by decide) hdf ⟨rfl, by decide, by decide⟩ hY F (fun _ H a ns hl _ hS => law_sp hS) fun _ _ _ _ _ z => z
end
end RB
open PySem PySem.W PyProof.Rows
set_option maxRecDepth 100000 in
set_option maxHeartbeats 0 in
theorem PySem.Challenge.cw_rulerbits_k76_whole_sides_from_both_side_holds : PySem.Challenge.rw_rulerbits_k76_whole_sides_from_both_side.Holds := by
  w_on; o_law; k_head; (case hw => w_witness2)
  k_fill
  refine RB.walk (l := PySem.Challenge.rw_rulerbits_k76_whole_sides_from_both_side) rfl rfl (fun w h Y => PySem.W.kIn_of Y) ?F
  case F =>
    intro w mg fa h KX G hmg
    refine' RB.all_mk KX G hmg ?z_int ?z_len ?z_list ?z_range ?z_sorted ?z_tuple ?z_dict ?z_isinstance ?z_bool ?z_str ?z_enumerate ?z_reversed ?z_abs ?z_min ?z_max ?z_sum ?g_MIN_MARKS ?g_MAX_MARKS ?g_MAX_LENGTH ?g_MAX_ERROR ?g_MAX_SHIFT ?g_Ruler ?pg_Ruler ?ic_Ruler ?po_Ruler ?sa_Ruler ?ca_Ruler ?cn_Ruler ?ct_Ruler ?cm_Ruler ?sa_Ruler_own_error ?sg_Ruler_own_error ?sk_Ruler_own_error ?sy_Ruler_own_error ?sx_Ruler_own_error ?sa_Ruler_own_marks ?sg_Ruler_own_marks ?sk_Ruler_own_marks ?sy_Ruler_own_marks ?sx_Ruler_own_marks ?ty_Ruler ?nf_Ruler_Ruler ?su_Ruler_tuple ?nt_Ruler_tuple ?mk_Ruler ?kc_Ruler ?at_Ruler_init ?fn_Ruler_init ?l_Ruler_init ?c_Ruler_init ?kp_Ruler_init ?at_Ruler_marks ?sp_Ruler_marks ?tk_Ruler_marks ?rc_Ruler_marks ?l_Ruler_marks ?c_Ruler_marks ?kp_Ruler_marks ?at_Ruler_length ?sp_Ruler_length ?tk_Ruler_length ?rc_Ruler_length ?l_Ruler_length ?c_Ruler_length ?kp_Ruler_length ?at_Ruler_spans ?sp_Ruler_spans ?tk_Ruler_spans ?rc_Ruler_spans ?l_Ruler_spans ?c_Ruler_spans ?kp_Ruler_spans ?at_Ruler_turned ?fn_Ruler_turned ?l_Ruler_turned ?c_Ruler_turned ?kp_Ruler_turned ?a_is_number ?l_is_number ?c_is_number ?kp_is_number ?a_spread_of ?l_spread_of ?c_spread_of ?kp_spread_of ?a_mirrored ?l_mirrored ?c_mirrored ?kp_mirrored ?a_spans_at ?l_spans_at ?c_spans_at ?kp_spans_at ?a_joint_spans ?l_joint_spans ?c_joint_spans ?kp_joint_spans ?a_best_shift ?l_best_shift ?c_best_shift ?kp_best_shift ?a_law_begun ?l_law_begun ?c_law_begun ?kp_law_begun ?a_law_take ?l_law_take ?c_law_take ?kp_law_take ?a_law_marks ?l_law_marks ?c_law_marks ?kp_law_marks ?a_law_ruler ?l_law_ruler ?c_law_ruler ?kp_law_ruler ?a_law_different ?l_law_different ?c_law_different ?kp_law_different ?a_law ?l_law ?c_law ?kp_law
    (case z_int => k_is)
    (case z_len => k_is)
    (case z_list => k_is)
    (case z_range => k_is)
    (case z_sorted => k_is)
    (case z_tuple => k_is)
    (case z_dict => k_is)
    (case z_isinstance => k_is)
    (case z_bool => k_is)
    (case z_str => k_is)
    (case z_enumerate => k_is)
    (case z_reversed => k_is)
    (case z_abs => k_is)
    (case z_min => k_is)
    (case z_max => k_is)
    (case z_sum => k_is)
    (case g_MIN_MARKS => k_is)
    (case g_MAX_MARKS => k_is)
    (case g_MAX_LENGTH => k_is)
    (case g_MAX_ERROR => k_is)
    (case g_MAX_SHIFT => k_is)
    (case g_Ruler => k_is)
    (case pg_Ruler => k_is)
    (case ic_Ruler => k_is)
    (case po_Ruler => k_is)
    (case sa_Ruler => k_is)
    (case ca_Ruler => k_is)
    (case cn_Ruler => k_is)
    (case ct_Ruler => k_is)
    (case cm_Ruler => k_is)
    (case sa_Ruler_own_error => k_is)
    (case sg_Ruler_own_error => k_is)
    (case sk_Ruler_own_error => k_is)
    (case sy_Ruler_own_error => k_is)
    (case sx_Ruler_own_error => k_is)
    (case sa_Ruler_own_marks => k_is)
    (case sg_Ruler_own_marks => k_is)
    (case sk_Ruler_own_marks => k_is)
    (case sy_Ruler_own_marks => k_is)
    (case sx_Ruler_own_marks => k_is)
    (case ty_Ruler => k_is)
    (case nf_Ruler_Ruler => k_is)
    (case su_Ruler_tuple => k_is)
    (case nt_Ruler_tuple => k_is)
    (case mk_Ruler => k_is)
    (case kc_Ruler => k_is)
    (case at_Ruler_init => k_is)
    (case fn_Ruler_init => k_is)
    (case l_Ruler_init => k_is)
    (case c_Ruler_init => k_is)
    (case kp_Ruler_init => k_is)
    (case at_Ruler_marks => k_is)
    (case sp_Ruler_marks => k_is)
    (case tk_Ruler_marks => k_is)
    (case rc_Ruler_marks => k_is)
    (case l_Ruler_marks => k_is)
    (case c_Ruler_marks => k_is)
    (case kp_Ruler_marks => k_is)
    (case at_Ruler_length => k_is)
    (case sp_Ruler_length => k_is)
    (case tk_Ruler_length => k_is)
    (case rc_Ruler_length => k_is)
    (case l_Ruler_length => k_is)
    (case c_Ruler_length => k_is)
    (case kp_Ruler_length => k_is)
    (case at_Ruler_spans => k_is)
    (case sp_Ruler_spans => k_is)
    (case tk_Ruler_spans => k_is)
    (case rc_Ruler_spans => k_is)
    (case l_Ruler_spans => k_is)
    (case c_Ruler_spans => k_is)
    (case kp_Ruler_spans => k_is)
    (case at_Ruler_turned => k_is)
    (case fn_Ruler_turned => k_is)
    (case l_Ruler_turned => k_is)
    (case c_Ruler_turned => k_is)
    (case kp_Ruler_turned => k_is)
    (case a_is_number => k_is)
    (case l_is_number => k_is)
    (case c_is_number => k_is)
    (case kp_is_number => k_is)
    (case a_spread_of => k_is)
    (case l_spread_of => k_is)
    (case c_spread_of => k_is)
    (case kp_spread_of => k_is)
    (case a_mirrored => k_is)
    (case l_mirrored => k_is)
    (case c_mirrored => k_is)
    (case kp_mirrored => k_is)
    (case a_spans_at => k_is)
    (case l_spans_at => k_is)
    (case c_spans_at => k_is)
    (case kp_spans_at => k_is)
    (case a_joint_spans => k_is)
    (case l_joint_spans => k_is)
    (case c_joint_spans => k_is)
    (case kp_joint_spans => k_is)
    (case a_best_shift => k_is)
    (case l_best_shift => k_is)
    (case c_best_shift => k_is)
    (case kp_best_shift => k_is)
    (case a_law_begun => k_is)
    (case l_law_begun => k_is)
    (case c_law_begun => k_is)
    (case kp_law_begun => k_is)
    (case a_law_take => k_is)
    (case l_law_take => k_is)
    (case c_law_take => k_is)
    (case kp_law_take => k_is)
    (case a_law_marks => k_is)
    (case l_law_marks => k_is)
    (case c_law_marks => k_is)
    (case kp_law_marks => k_is)
    (case a_law_ruler => k_is)
    (case l_law_ruler => k_is)
    (case c_law_ruler => k_is)
    (case kp_law_ruler => k_is)
    (case a_law_different => k_is)
    (case l_law_different => k_is)
    (case c_law_different => k_is)
    (case kp_law_different => k_is)
    (case a_law => k_is)
    (case l_law => k_is)
    (case c_law => k_is)
    (case kp_law => k_is)

