import PyProof.Rows.All
import Wide.All
import OpenK.AllK
import Wide.FinOn
import HandS.ForMost
import HandS.Slots
import HandS.SlotsOwn
import HandS.TupAny
import HandS.Conv
import HandS.Rev
import HandS.Zip
import HandS.SortInts
import HandS.Style
import HandS.Flow
import HandS.Deep
import HandS.Exc
import HandS.ExcOwn
import HandS.TryOnly
import HandS.WordsExc
import HandS.Lambda
import HandS.IsInst
import KE.GoesMore
import HandS.DictComp
import HandS.More
import KE.KRevSl
import HandS.SetFor
import HandS.Star
import PyProof.DictUpdate
import KE.KDictSum
import HandS.Text
import HandS.SortRule
import PyProof.Rows.SortKeyStr
import HandS.DictEq
import PyProof.Rows.StrMeet
import HandS.Iter
import HandS.Wide
import KE.SortData
import KE.DataMinMax
import KE.DataCmp
import PyProof.Claim2Refuses
import HandS.Strs
import HandS.ExcIs
import HandS.ExcField
import HandS.EndOwn
import KE.KExcIs
import KE.KNestM
import PySem.Challenge.RW_rulerbits_k08_whole_side_by_side
set_option Elab.async false
set_option linter.all false
set_option maxRecDepth 100000
set_option maxHeartbeats 4000000
set_option autoImplicit false
namespace RB
open PySem PySem.Spec PyProof.Rows L2
/-! Data trees over the hand layer. -/

/-! ### data -/
inductive D where
  | non | bl (b : Bool) | int (i : Int) | str (x : Str)
  | tup (xs : List D) | lst (xs : List D)
  | dic (ks : List Key) (xs : List D)
  | ins (C : Addr) (xs : List D)
  | adr (a : Addr)
  | obj (C : Addr) (ns : List Str) (xs : List D)
  | slo (C dx : Addr) (is : List Nat) (xs : List D)
  | xdo (x : Addr) (b : Bool)
  | scr (ns : List Int)
  | tab (q : Str)
  | hob (o : Addr → HO)
/-- a slot: unknown, shared (frozen) data, an own mutable object -/
inductive Sl where
  | no | sh (d : D) | own (d : D)
/-- a result: shared data, a fresh object, the object of an own slot -/
inductive Res where
  | sh (d : D) | fr (d : D) | pk (i : Nat)
abbrev Env2 := List Sl

mutual
def Rep (K : PySem.W.Frag) (F : Hp) : D → V → Prop
  | .non, v => v = .non
  | .bl b, v => v = .bl b
  | .int i, v => v = .int i
  | .str x, v => v = .str x
  | .tup ds, v => ∃ a vs, v = .ref a ∧ SqT K F a vs ∧ RepL K F ds vs
  | .lst ds, v => ∃ a vs, v = .ref a ∧ Rd F a (.lst vs) ∧ RepL K F ds vs
  | .dic ks ds, v => ∃ a o vs, v = .ref a ∧ F a = some (.frz o (.dK (ks.zip vs))) ∧ ks.length = ds.length ∧ RepL K F ds vs
  | .ins C ds, v => ∃ a dx vs, v = .ref a ∧ SlX.Slt F a C dx (vs.map some) ∧ RepL K F ds vs
  | .adr a, v => v = .ref a
  | .obj _ _ _, _ => False
  | .slo _ _ _ _, _ => False
  | .xdo _ _, _ => False
  | .tab _, _ => False
  | .hob o, v => ∃ a, v = .ref a ∧ F a = some (o a)
  | .scr ns, v => ∃ a, v = .ref a ∧ SqL K F a (ns.map V.int)
def RepL (K : PySem.W.Frag) (F : Hp) : List D → List V → Prop
  | [], vs => vs = []
  | d :: ds, vs => ∃ v r, vs = v :: r ∧ Rep K F d v ∧ RepL K F ds r
end

abbrev Ex (H H' : Hp) : Prop := ∀ a o, H a = some o → H' a = some o
theorem Ex.refl (H : Hp) : Ex H H := fun _ _ h => h
theorem Ex.trans {A B C : Hp} (x : Ex A B) (y : Ex B C) : Ex A C := fun a o h => y a o (x a o h)
theorem Ex.new {H : Hp} {p : Addr} {o : HO} (h : H p = none) : Ex H (upd H p o) := fun a u e => by
  rw [upd_ne (ne_of_none e h)]; exact e
theorem Ex.rd {F F' : Hp} (e : Ex F F') {a : Addr} {u : HO} (h : Rd F a u) : Rd F' a u := by
  rcases h with h | ⟨o, h⟩
  · exact .inl (e a _ h)
  · exact .inr ⟨o, e a _ h⟩
theorem Ex.sqL {K : PySem.W.Frag} {F F' : Hp} (e : Ex F F') {a : Addr} {xs : List V} (h : SqL K F a xs) : SqL K F' a xs := by
  rcases h with h | h
  · exact .inl (e.rd h)
  · exact .inr h
theorem Ex.sqT {K : PySem.W.Frag} {F F' : Hp} (e : Ex F F') {a : Addr} {xs : List V} (h : SqT K F a xs) : SqT K F' a xs := by
  rcases h with h | h
  · exact .inl (e.rd h)
  · exact .inr h
theorem Ex.slt {F F' : Hp} (e : Ex F F') {a C dx : Addr} {vs : List (Option V)} (h : SlX.Slt F a C dx vs) : SlX.Slt F' a C dx vs := by
  rcases h with ⟨h1, h2⟩ | ⟨h1, h2⟩
  · exact .inl ⟨e _ _ h1, h2⟩
  · exact .inr ⟨e _ _ h1, e _ _ h2⟩

mutual
theorem Rep.mono {K : PySem.W.Frag} {F F' : Hp} (e : Ex F F') : ∀ (d : D) (v : V), Rep K F d v → Rep K F' d v
  | .non, v, h => h
  | .bl b, v, h => h
  | .int i, v, h => h
  | .str x, v, h => h
  | .tup ds, v, h => by
    obtain ⟨a, vs, h1, h2, h3⟩ := h
    exact ⟨a, vs, h1, e.sqT h2, RepL.mono e ds vs h3⟩
  | .lst ds, v, h => by
    obtain ⟨a, vs, h1, h2, h3⟩ := h
    exact ⟨a, vs, h1, e.rd h2, RepL.mono e ds vs h3⟩
  | .dic ks ds, v, h => by
    obtain ⟨a, o, vs, h1, h2, h4, h3⟩ := h
    exact ⟨a, o, vs, h1, e _ _ h2, h4, RepL.mono e ds vs h3⟩
  | .ins C ds, v, h => by
    obtain ⟨a, dx, vs, h1, h2, h3⟩ := h
    exact ⟨a, dx, vs, h1, e.slt h2, RepL.mono e ds vs h3⟩
  | .adr a, v, h => h
  | .obj _ _ _, v, h => h
  | .slo _ _ _ _, v, h => h
  | .xdo _ _, v, h => h
  | .tab _, v, h => h
  | .hob o, v, h => by obtain ⟨a, h1, h2⟩ := h; exact ⟨a, h1, e _ _ h2⟩
  | .scr ns, v, h => by
    obtain ⟨a, h1, h2⟩ := h
    exact ⟨a, h1, e.sqL h2⟩
theorem RepL.mono {K : PySem.W.Frag} {F F' : Hp} (e : Ex F F') : ∀ (ds : List D) (vs : List V), RepL K F ds vs → RepL K F' ds vs
  | [], vs, h => h
  | d :: ds, vs, h => by
    obtain ⟨v, r, h1, h2, h3⟩ := h
    exact ⟨v, r, h1, Rep.mono e d v h2, RepL.mono e ds r h3⟩
end
section
variable {K : PySem.W.Frag} {F : Hp}
theorem RepL.length : ∀ {ds : List D} {vs : List V}, RepL K F ds vs → vs.length = ds.length
  | [], vs, h => by cases (show vs = [] from h); rfl
  | d :: ds, vs, h => by
    obtain ⟨v, r, rfl, _, h3⟩ := h
    rw [List.length_cons, List.length_cons, RepL.length h3]
theorem RepL.get : ∀ {ds : List D} {vs : List V} {i : Nat} {d : D}, RepL K F ds vs → ds[i]? = some d → ∃ v, vs[i]? = some v ∧ Rep K F d v
  | [], vs, i, d, h, e => by simp at e
  | d0 :: ds, vs, 0, d, h, e => by
    obtain ⟨v, r, rfl, h2, _⟩ := h
    have : d0 = d := by simpa using e
    subst this
    exact ⟨v, rfl, h2⟩
  | d0 :: ds, vs, i + 1, d, h, e => by
    obtain ⟨v, r, rfl, _, h3⟩ := h
    obtain ⟨u, h1, h2⟩ := RepL.get (i := i) h3 (by simpa using e)
    exact ⟨u, by simpa using h1, h2⟩
theorem RepL.getV {ds : List D} {vs : List V} {i : Nat} {v : V} (h : RepL K F ds vs) (e : vs[i]? = some v) : ∃ d, ds[i]? = some d ∧ Rep K F d v := by
  have hi : i < vs.length := (List.getElem?_eq_some_iff.mp e).1
  rw [h.length] at hi
  obtain ⟨u, h1, h2⟩ := h.get (List.getElem?_eq_getElem hi)
  rw [e] at h1
  cases h1
  exact ⟨_, List.getElem?_eq_getElem hi, h2⟩
theorem RepL.append : ∀ {ds es : List D} {vs us : List V}, RepL K F ds vs → RepL K F es us → RepL K F (ds ++ es) (vs ++ us)
  | [], es, vs, us, h, g => by cases (show vs = [] from h); exact g
  | d :: ds, es, vs, us, h, g => by
    obtain ⟨v, r, rfl, h2, h3⟩ := h
    exact ⟨v, r ++ us, rfl, h2, RepL.append h3 g⟩
theorem RepL.one {d : D} {v : V} (h : Rep K F d v) : RepL K F [d] [v] := ⟨v, [], rfl, h, rfl⟩
theorem RepL.drop : ∀ (n : Nat) {ds : List D} {vs : List V}, RepL K F ds vs → RepL K F (ds.drop n) (vs.drop n)
  | 0, _, _, h => h
  | n + 1, [], vs, h => by cases (show vs = [] from h); exact rfl
  | n + 1, d :: ds, vs, h => by
    obtain ⟨v, r, rfl, h2, h3⟩ := h
    exact RepL.drop n h3
theorem RepL.take : ∀ (n : Nat) {ds : List D} {vs : List V}, RepL K F ds vs → RepL K F (ds.take n) (vs.take n)
  | 0, _, _, h => rfl
  | n + 1, [], vs, h => by cases (show vs = [] from h); exact rfl
  | n + 1, d :: ds, vs, h => by
    obtain ⟨v, r, rfl, h2, h3⟩ := h
    exact ⟨v, r.take n, rfl, h2, RepL.take n h3⟩
theorem RepL.set : ∀ (i : Nat) {ds : List D} {vs : List V} {d : D} {v : V}, RepL K F ds vs → Rep K F d v → RepL K F (ds.set i d) (vs.set i v)
  | i, [], vs, d, v, h, g => by cases (show vs = [] from h); exact rfl
  | 0, d0 :: ds, vs, d, v, h, g => by
    obtain ⟨u, r, rfl, _, h3⟩ := h
    exact ⟨v, r, rfl, g, h3⟩
  | i + 1, d0 :: ds, vs, d, v, h, g => by
    obtain ⟨u, r, rfl, h2, h3⟩ := h
    exact ⟨u, r.set i v, rfl, h2, RepL.set i h3 g⟩
theorem RepL.eraseIdx : ∀ (i : Nat) {ds : List D} {vs : List V}, RepL K F ds vs → RepL K F (ds.eraseIdx i) (vs.eraseIdx i)
  | i, [], vs, h => by cases (show vs = [] from h); exact rfl
  | 0, d0 :: ds, vs, h => by
    obtain ⟨u, r, rfl, _, h3⟩ := h
    exact h3
  | i + 1, d0 :: ds, vs, h => by
    obtain ⟨u, r, rfl, h2, h3⟩ := h
    exact ⟨u, r.eraseIdx i, rfl, h2, RepL.eraseIdx i h3⟩
theorem RepL.reverse : ∀ {ds : List D} {vs : List V}, RepL K F ds vs → RepL K F ds.reverse vs.reverse
  | [], vs, h => by cases (show vs = [] from h); exact rfl
  | d :: ds, vs, h => by
    obtain ⟨v, r, rfl, h2, h3⟩ := h
    rw [List.reverse_cons, List.reverse_cons]
    exact (RepL.reverse h3).append (.one h2)
/-- lists of ints -/
theorem RepL.ints : ∀ {ns : List Int} {vs : List V}, RepL K F (ns.map D.int) vs → vs = ns.map V.int
  | [], vs, h => h
  | n :: ns, vs, h => by
    obtain ⟨v, r, rfl, h2, h3⟩ := h
    cases (show v = .int n from h2)
    rw [RepL.ints h3]; rfl
theorem RepL.of_ints : ∀ (ns : List Int), RepL K F (ns.map D.int) (ns.map V.int)
  | [] => rfl
  | n :: ns => ⟨_, _, rfl, rfl, RepL.of_ints ns⟩
theorem RepL.strs : ∀ {ns : List Str} {vs : List V}, RepL K F (ns.map D.str) vs → vs = ns.map V.str
  | [], vs, h => h
  | n :: ns, vs, h => by
    obtain ⟨v, r, rfl, h2, h3⟩ := h
    cases (show v = .str n from h2)
    rw [RepL.strs h3]; rfl
theorem RepL.of_strs : ∀ (ns : List Str), RepL K F (ns.map D.str) (ns.map V.str)
  | [] => rfl
  | n :: ns => ⟨_, _, rfl, rfl, RepL.of_strs ns⟩
end

/-- what is not frozen as it stands -/
def isDic : D → Bool
  | .lst _ => false
  | .tup _ => false
  | .int _ => false
  | .bl _ => false
  | .str _ => false
  | .non => false
  | .ins _ _ => false
  | .adr _ => false
  | _ => true
/-! ### own objects -/
/-- the object at p, its parts frozen -/
def Own (K : PySem.W.Frag) (F H : Hp) (p : Addr) : D → Prop
  | .lst ds => ∃ vs, H p = some (.lst vs) ∧ RepL K F ds vs
  | .dic ks ds => ∃ vs, H p = some (.dK (ks.zip vs)) ∧ ks.length = ds.length ∧ RepL K F ds vs
  | .obj C ns ds => ∃ dx vs, H p = some (.ins C dx (ns.zip vs)) ∧ ns.length = ds.length ∧ RepL K F ds vs
  | .slo C dx is ds => (is = [] ∧ ds = [] ∧ H p = some (.ins C dx [])) ∨ ∃ us vs, H p = some (SlX.SlO p C dx us) ∧ is.length = ds.length ∧ RepL K F ds vs ∧ ∀ (j : Nat) (i : Nat) (v : V), is[j]? = some i → vs[j]? = some v → us[i]? = some (some v)
  | .xdo x b => H p = some (if b then .xd [] else .own x)
  | .tab q => ∃ ps : Array Value, H p = some (.tbl ps) ∧ TriplesOk ps.toList ∧ ∀ (pos : Pos) (cv : Value), codeAmong pos ps.toList = some cv → ∃ c, cv = .ref c ∧ F c = some (LamX.CodeO c q)
  | .hob o => H p = some (o p)
  | _ => False
theorem Own.mono {K : PySem.W.Frag} {F F' H H' : Hp} {p : Addr} {d : D} (e : Ex F F') (k : ∀ o, H p = some o → H' p = some o) (h : Own K F H p d) : Own K F' H' p d := by
  cases d with
  | lst ds => obtain ⟨vs, h1, h2⟩ := h; exact ⟨vs, k _ h1, RepL.mono e _ _ h2⟩
  | dic ks ds => obtain ⟨vs, h1, h3, h2⟩ := h; exact ⟨vs, k _ h1, h3, RepL.mono e _ _ h2⟩
  | obj C ns ds => obtain ⟨dx, vs, h1, h3, h2⟩ := h; exact ⟨dx, vs, k _ h1, h3, RepL.mono e _ _ h2⟩
  | slo C dx is ds =>
    rcases h with ⟨h1, h2, h3⟩ | ⟨us, vs, h1, h2, h3, h4⟩
    · exact .inl ⟨h1, h2, k _ h3⟩
    · exact .inr ⟨us, vs, k _ h1, h2, RepL.mono e _ _ h3, h4⟩
  | xdo x b => exact k _ h
  | hob o => exact k _ h
  | tab q => obtain ⟨ps, h1, h2, h3⟩ := h; exact ⟨ps, k _ h1, h2, fun pos cv hc => let ⟨c, e1, e2⟩ := h3 pos cv hc; ⟨c, e1, e _ _ e2⟩⟩
  | _ => exact h.elim
theorem Own.there {K : PySem.W.Frag} {F H : Hp} {p : Addr} {d : D} (h : Own K F H p d) : ∃ o, H p = some o := by
  cases d with
  | lst ds => obtain ⟨vs, h1, h2⟩ := h; exact ⟨_, h1⟩
  | dic ks ds => obtain ⟨vs, h1, h3, h2⟩ := h; exact ⟨_, h1⟩
  | obj C ns ds => obtain ⟨dx, vs, h1, h3, h2⟩ := h; exact ⟨_, h1⟩
  | slo C dx is ds =>
    rcases h with ⟨h1, h2, h3⟩ | ⟨us, vs, h1, h2, h3, h4⟩
    · exact ⟨_, h3⟩
    · exact ⟨_, h1⟩
  | xdo x b => exact ⟨_, h⟩
  | tab q => obtain ⟨ps, h1, _⟩ := h; exact ⟨_, h1⟩
  | hob o => exact ⟨_, h⟩
  | _ => exact h.elim
/-- a view: frozen, or an object whose parts are -/
def Vw (K : PySem.W.Frag) (F H : Hp) (d : D) (v : V) : Prop := Rep K F d v ∨ ∃ p, v = .ref p ∧ Own K F H p d
theorem Vw.lst {K : PySem.W.Frag} {F H : Hp} (e : Ex F H) {ds : List D} {v : V} (h : Vw K F H (.lst ds) v) : ∃ a vs, v = .ref a ∧ Rd H a (.lst vs) ∧ RepL K F ds vs := by
  rcases h with ⟨a, vs, h1, h2, h3⟩ | ⟨p, h1, vs, h2, h3⟩
  · exact ⟨a, vs, h1, e.rd h2, h3⟩
  · exact ⟨p, vs, h1, .inl h2, h3⟩
theorem Vw.tup {K : PySem.W.Frag} {F H : Hp} (e : Ex F H) {ds : List D} {v : V} (h : Vw K F H (.tup ds) v) : ∃ a vs, v = .ref a ∧ SqT K H a vs ∧ RepL K F ds vs := by
  rcases h with ⟨a, vs, h1, h2, h3⟩ | ⟨p, h1, h2⟩
  · exact ⟨a, vs, h1, e.sqT h2, h3⟩
  · exact h2.elim
theorem Vw.dic {K : PySem.W.Frag} {F H : Hp} (e : Ex F H) {ks : List Key} {ds : List D} {v : V} (h : Vw K F H (.dic ks ds) v) : ∃ a vs, v = .ref a ∧ Rd H a (.dK (ks.zip vs)) ∧ ks.length = ds.length ∧ RepL K F ds vs := by
  rcases h with ⟨a, o, vs, h1, h2, h4, h3⟩ | ⟨p, h1, vs, h2, h4, h3⟩
  · exact ⟨a, vs, h1, .inr ⟨o, e _ _ h2⟩, h4, h3⟩
  · exact ⟨p, vs, h1, .inl h2, h4, h3⟩
theorem Vw.int {K : PySem.W.Frag} {F H : Hp} {i : Int} {v : V} (h : Vw K F H (.int i) v) : v = .int i := by
  rcases h with h | ⟨p, h1, h2⟩
  · exact h
  · exact h2.elim
theorem Vw.bl {K : PySem.W.Frag} {F H : Hp} {i : Bool} {v : V} (h : Vw K F H (.bl i) v) : v = .bl i := by
  rcases h with h | ⟨p, h1, h2⟩
  · exact h
  · exact h2.elim
theorem Vw.str {K : PySem.W.Frag} {F H : Hp} {i : Str} {v : V} (h : Vw K F H (.str i) v) : v = .str i := by
  rcases h with h | ⟨p, h1, h2⟩
  · exact h
  · exact h2.elim
theorem Vw.non {K : PySem.W.Frag} {F H : Hp} {v : V} (h : Vw K F H .non v) : v = .non := by
  rcases h with h | ⟨p, h1, h2⟩
  · exact h
  · exact h2.elim
theorem Vw.ins {K : PySem.W.Frag} {F H : Hp} (e : Ex F H) {C : Addr} {ds : List D} {v : V} (h : Vw K F H (.ins C ds) v) : ∃ a dx vs, v = .ref a ∧ SlX.Slt H a C dx (vs.map some) ∧ RepL K F ds vs := by
  rcases h with ⟨a, dx, vs, h1, h2, h3⟩ | ⟨p, h1, h2⟩
  · exact ⟨a, dx, vs, h1, e.slt h2, h3⟩
  · exact h2.elim

/-! ### states -/
/-- the open region: objects that are known by their address, as data -/
abbrev GD := Addr → Option D
abbrev ExG (G G' : GD) : Prop := ∀ a d, G a = some d → G' a = some d
def updG (G : GD) (a : Addr) (d : D) : GD := fun b => if b = a then some d else G b
theorem updG_same {G : GD} {a : Addr} {d : D} : updG G a d a = some d := by unfold updG; rw [if_pos rfl]
theorem updG_ne {G : GD} {a b : Addr} {d : D} (h : b ≠ a) : updG G a d b = G b := by unfold updG; rw [if_neg h]
/-- F0: what was frozen at the entry; T: what others hold; F: frozen; G: the open region; H: all -/
structure Bas (K : PySem.W.Frag) (F0 T F : Hp) (G : GD) (H : Hp) : Prop where
  ff : Ex F0 F
  ft : ∀ a o, F a = some o → F0 a = some o ∨ T a = none
  fh : Ex F H
  gh : ∀ a d, G a = some d → Own K F H a d
  fg : ∀ a o, G a = some o → F a = none
  gt : ∀ a o, G a = some o → T a = none
  tk : Ex T H
def SlotOk (K : PySem.W.Frag) (T F : Hp) (G : GD) (H : Hp) : Sl → Option (Option V) → Prop
  | .no, _ => True
  | .sh d, x => ∃ v, x = some (some v) ∧ Rep K F d v
  | .own d, x => ∃ p, x = some (some (.ref p)) ∧ Own K F H p d ∧ F p = none ∧ G p = none ∧ T p = none
structure Sta (K : PySem.W.Frag) (F0 T F : Hp) (G : GD) (H : Hp) (r : Env2) (σ : L2.St) : Prop where
  bas : Bas K F0 T F G H
  len : r.length = σ.length
  sl : ∀ (i : Nat) (s : Sl), r[i]? = some s → SlotOk K T F G H s σ[i]?
  ap : ∀ (i j : Nat) (d e : D), i ≠ j → r[i]? = some (.own d) → r[j]? = some (.own e) → σ[i]? ≠ σ[j]?
def ResOk (K : PySem.W.Frag) (T F : Hp) (G : GD) (H : Hp) (r : Env2) (σ : L2.St) : Res → V → Prop
  | .sh d, v => Rep K F d v
  | .fr d, v => ∃ p, v = .ref p ∧ Own K F H p d ∧ F p = none ∧ G p = none ∧ T p = none ∧ ∀ (i : Nat) (e : D), r[i]? = some (.own e) → σ[i]? ≠ some (some (.ref p))
  | .pk i, v => σ[i]? = some (some v) ∧ ∃ d, r[i]? = some (.own d)
/-- the view of a result -/
def vw (r : Env2) : Res → Option D
  | .sh d => some d
  | .fr d => if isDic d then none else some d
  | .pk i => match r[i]? with
    | some (.own d) => some d
    | some (.sh d) => some d
    | _ => none
/-- the view of a result, or of an object of the open region -/
def VwR (r : Env2) (G : GD) (x : Res) (d : D) : Prop := vw r x = some d ∨ ∃ a, x = .sh (.adr a) ∧ G a = some d
def RtOk (K : PySem.W.Frag) (T F : Hp) (G : GD) (H : Hp) : Res → V → Prop
  | .sh d, v => Rep K F d v
  | .fr d, v => ∃ p, v = .ref p ∧ Own K F H p d ∧ F p = none ∧ G p = none ∧ T p = none
  | .pk _, _ => False
/-- what freezing an object at p adds -/
def Frz (K : PySem.W.Frag) (F H : Hp) (p : Addr) : Hp := fun a => if a = p then H p else F a

section
variable {K : PySem.W.Frag} {F0 T F : Hp} {G : GD} {H : Hp} {r : Env2} {σ : L2.St}
theorem Sta.slot (S : Sta K F0 T F G H r σ) {i : Nat} {d : D} (h : r[i]? = some (.sh d)) : ∃ v, σ[i]? = some (some v) ∧ Rep K F d v := S.sl i _ h
theorem Sta.ownS (S : Sta K F0 T F G H r σ) {i : Nat} {d : D} (h : r[i]? = some (.own d)) : ∃ p, σ[i]? = some (some (.ref p)) ∧ Own K F H p d ∧ F p = none ∧ G p = none ∧ T p = none := S.sl i _ h
theorem Bas.gh' (B : Bas K F0 T F G H) {a : Addr} {d : D} (h : G a = some d) : ∃ o, H a = some o := (B.gh a d h).there
theorem Bas.freshF (B : Bas K F0 T F G H) {p : Addr} (hp : H p = none) : F p = none ∧ G p = none ∧ T p = none := by
  refine ⟨?_, ?_, ?_⟩
  · cases e : F p with
    | none => rfl
    | some u => rw [B.fh p u e] at hp; cases hp
  · cases e : G p with
    | none => rfl
    | some u => obtain ⟨o, ho⟩ := B.gh' e; rw [ho] at hp; cases hp
  · cases e : T p with
    | none => rfl
    | some u => rw [B.tk p u e] at hp; cases hp
/-- the open objects, while F and H grow -/
theorem Bas.gmono (B : Bas K F0 T F G H) {F' H' : Hp} (ef : Ex F F') (eh : ∀ a o, G a ≠ none → H a = some o → H' a = some o) : ∀ a d, G a = some d → Own K F' H' a d := fun a d h =>
  (B.gh a d h).mono ef fun o ho => eh a o (by rw [h]; exact fun z => nomatch z) ho
/-- the frozen part grows by a new object, others keep -/
theorem Bas.newF (B : Bas K F0 T F G H) {p : Addr} {o : HO} (hp : H p = none) : Bas K F0 T (upd F p o) G (upd H p o) := by
  obtain ⟨fp, gp, tp⟩ := B.freshF hp
  refine ⟨B.ff.trans (Ex.new fp), fun a o' e => ?_, fun a o' e => ?_, B.gmono (Ex.new fp) fun a u _ h => Ex.new hp a u h, fun a o' e => ?_, B.gt, B.tk.trans (Ex.new hp)⟩
  · by_cases h : a = p
    · subst h; exact .inr tp
    · rw [upd_ne h] at e; exact B.ft a o' e
  · by_cases h : a = p
    · subst h; rw [upd_same] at e ⊢; exact e
    · rw [upd_ne h] at e ⊢; exact B.fh a o' e
  · by_cases h : a = p
    · subst h; rw [gp] at e; cases e
    · rw [upd_ne h]; exact B.fg a o' e
/-- a new object that is not frozen -/
theorem Bas.newH (B : Bas K F0 T F G H) {p : Addr} {o : HO} (hp : H p = none) : Bas K F0 T F G (upd H p o) :=
  ⟨B.ff, B.ft, B.fh.trans (Ex.new hp), B.gmono (Ex.refl _) fun a u _ h => Ex.new hp a u h, B.fg, B.gt, B.tk.trans (Ex.new hp)⟩
/-- an object that nobody else knows is written -/
theorem Bas.put (B : Bas K F0 T F G H) {p : Addr} {o : HO} (h1 : F p = none) (h2 : G p = none) (h3 : T p = none) : Bas K F0 T F G (upd H p o) := by
  refine ⟨B.ff, B.ft, fun a u e => ?_, B.gmono (Ex.refl _) fun a u hg e => ?_, B.fg, B.gt, fun a u e => ?_⟩
  · rw [upd_ne (ne_of_none e h1)]; exact B.fh a u e
  · rw [upd_ne (fun z => hg (by rw [z]; exact h2))]; exact e
  · rw [upd_ne (ne_of_none e h3)]; exact B.tk a u e
theorem Bas.frz (B : Bas K F0 T F G H) {p : Addr} {o : HO} (ho : H p = some o) (h1 : F p = none) (h2 : G p = none) (h3 : T p = none) : Bas K F0 T (upd F p o) G H := by
  refine ⟨B.ff.trans (Ex.new h1), fun a u e => ?_, fun a u e => ?_, B.gmono (Ex.new h1) fun _ _ _ h => h, fun a u e => ?_, B.gt, B.tk⟩
  · by_cases h : a = p
    · subst h; exact .inr h3
    · rw [upd_ne h] at e; exact B.ft a u e
  · by_cases h : a = p
    · subst h; rw [upd_same] at e; cases e; exact ho
    · rw [upd_ne h] at e; exact B.fh a u e
  · by_cases h : a = p
    · subst h; rw [h2] at e; cases e
    · rw [upd_ne h]; exact B.fg a u e
/-- the slots stand when F, H grow and the own objects keep -/
theorem Sta.grow {F' : Hp} {G' : GD} {H' : Hp} {F0' T' : Hp} (S : Sta K F0 T F G H r σ) (B : Bas K F0' T' F' G' H') (ef : Ex F F')
    (ko : ∀ p, F p = none → G p = none → T p = none → (∃ o, H p = some o) → (∀ o, H p = some o → H' p = some o) ∧ F' p = none ∧ G' p = none ∧ T' p = none) : Sta K F0' T' F' G' H' r σ := by
  refine ⟨B, S.len, fun i s e => ?_, S.ap⟩
  have h := S.sl i s e
  cases s with
  | no => trivial
  | sh d => obtain ⟨v, h1, h2⟩ := h; exact ⟨v, h1, Rep.mono ef _ _ h2⟩
  | own d =>
    obtain ⟨p, h1, h2, h3, h4, h5⟩ := h
    obtain ⟨k1, k2, k3, k4⟩ := ko p h3 h4 h5 h2.there
    exact ⟨p, h1, h2.mono ef k1, k2, k3, k4⟩
theorem Sta.newF (S : Sta K F0 T F G H r σ) {p : Addr} {o : HO} (hp : H p = none) : Sta K F0 T (upd F p o) G (upd H p o) r σ := by
  refine S.grow (S.bas.newF hp) (Ex.new (S.bas.freshF hp).1) fun q h1 h2 h3 ⟨u, hu⟩ => ?_
  have hq : q ≠ p := fun z => by subst z; rw [hp] at hu; cases hu
  exact ⟨fun o' e => by rw [upd_ne hq]; exact e, by rw [upd_ne hq]; exact h1, h2, h3⟩
theorem Sta.newH (S : Sta K F0 T F G H r σ) {p : Addr} {o : HO} (hp : H p = none) : Sta K F0 T F G (upd H p o) r σ := by
  refine S.grow (S.bas.newH hp) (Ex.refl _) fun q h1 h2 h3 ⟨u, hu⟩ => ?_
  have hq : q ≠ p := fun z => by subst z; rw [hp] at hu; cases hu
  exact ⟨fun o' e => by rw [upd_ne hq]; exact e, h1, h2, h3⟩
theorem Sta.freshR (S : Sta K F0 T F G H r σ) {p : Addr} (hp : H p = none) : ∀ (i : Nat) (e : D), r[i]? = some (.own e) → σ[i]? ≠ some (some (.ref p)) := fun i e he z => by
  obtain ⟨q, h1, h2, _⟩ := S.ownS he
  rw [z] at h1
  cases h1
  obtain ⟨o, ho⟩ := h2.there
  rw [hp] at ho; cases ho
/-- a slot is stored -/
theorem Sta.set (S : Sta K F0 T F G H r σ) {i : Nat} {s : Sl} {v : V} (hi : i < r.length) (h : SlotOk K T F G H s (some (some v))) (ha : ∀ d, s = .own d → ∀ (j : Nat) (e : D), r[j]? = some (.own e) → j ≠ i → σ[j]? ≠ some (some v)) : Sta K F0 T F G H (r.set i s) (σ.set i (some v)) := by
  have hiσ : i < σ.length := by rw [← S.len]; exact hi
  refine ⟨S.bas, by rw [List.length_set, List.length_set]; exact S.len, fun j s' e => ?_, fun j k d e hjk ej ek => ?_⟩
  · by_cases hj : i = j
    · subst hj
      rw [List.getElem?_set_self hi] at e
      cases e
      rw [List.getElem?_set_self hiσ]
      exact h
    · rw [List.getElem?_set_ne hj] at e ⊢
      exact S.sl j s' e
  · by_cases hj : i = j
    · subst hj
      rw [List.getElem?_set_self hi] at ej
      cases ej
      rw [List.getElem?_set_ne hjk] at ek
      rw [List.getElem?_set_self hiσ, List.getElem?_set_ne hjk]
      exact fun z => ha d rfl k e ek (Ne.symm hjk) z.symm
    · rw [List.getElem?_set_ne hj] at ej
      by_cases hk : i = k
      · subst hk
        rw [List.getElem?_set_self hi] at ek
        cases ek
        rw [List.getElem?_set_self hiσ, List.getElem?_set_ne hj]
        exact ha e rfl j d ej hjk
      · rw [List.getElem?_set_ne hk] at ek
        rw [List.getElem?_set_ne hj, List.getElem?_set_ne hk]
        exact S.ap j k d e hjk ej ek
/-- knowledge about slots is forgotten -/
inductive Wk : Env2 → Env2 → Prop
  | nil : Wk [] []
  | no {s : Sl} {a b : Env2} (h : Wk a b) : Wk (s :: a) (.no :: b)
  | eq {s : Sl} {a b : Env2} (h : Wk a b) : Wk (s :: a) (s :: b)
theorem Wk.get {a b : Env2} (w : Wk a b) : ∀ (i : Nat) (s : Sl), b[i]? = some s → s = .no ∨ a[i]? = some s := by
  induction w with
  | nil => intro i s h; simp at h
  | no _ ih =>
    intro i s h
    cases i with
    | zero => left; simpa using h.symm
    | succ i => simpa using ih i s (by simpa using h)
  | eq _ ih =>
    intro i s h
    cases i with
    | zero => right; simpa using h
    | succ i => simpa using ih i s (by simpa using h)
theorem Wk.len {a b : Env2} (w : Wk a b) : b.length = a.length := by
  induction w with
  | nil => rfl
  | no _ ih => simp [ih]
  | eq _ ih => simp [ih]
theorem Wk.refl : ∀ (a : Env2), Wk a a
  | [] => .nil
  | _ :: a => .eq (Wk.refl a)
theorem Sta.weak {r' : Env2} (S : Sta K F0 T F G H r σ) (w : Wk r r') : Sta K F0 T F G H r' σ := by
  refine ⟨S.bas, by rw [w.len]; exact S.len, fun i s e => ?_, fun i j d e hij ei ej => ?_⟩
  · rcases w.get i s e with z | z
    · subst z; trivial
    · exact S.sl i s z
  · rcases w.get i _ ei with z | z
    · cases z
    · rcases w.get j _ ej with y | y
      · cases y
      · exact S.ap i j d e hij z y
/-- an own slot is frozen -/
theorem Sta.frzSlot (S : Sta K F0 T F G H r σ) {i : Nat} {d : D} (hD : isDic d = false) (h : r[i]? = some (.own d)) : ∃ F', Ex F F' ∧ Sta K F0 T F' G H (r.set i (.sh d)) σ ∧ ∃ v, σ[i]? = some (some v) ∧ Rep K F' d v := by
  obtain ⟨p, h1, h2, h3, h4, h5⟩ := S.ownS h
  obtain ⟨o, ho⟩ := h2.there
  have hi : i < r.length := (List.getElem?_eq_some_iff.mp h).1
  have ef : Ex F (upd F p o) := Ex.new h3
  have rp : Rep K (upd F p o) d (.ref p) := by
    cases d with
    | lst ds =>
      obtain ⟨vs, q1, q2⟩ := h2
      rw [ho] at q1; cases q1
      exact ⟨p, vs, rfl, .inl upd_same, RepL.mono ef _ _ q2⟩
    | dic ks ds => cases hD
    | obj C ns ds => cases hD
    | slo C dx is ds => cases hD
    | xdo x b => cases hD
    | tab q => cases hD
    | hob o => cases hD
    | _ => exact h2.elim
  refine ⟨upd F p o, ef, ⟨S.bas.frz ho h3 h4 h5, by rw [List.length_set]; exact S.len, fun j s e => ?_, fun j k d' e' hjk ej ek => ?_⟩, .ref p, h1, rp⟩
  · by_cases hj : i = j
    · subst hj
      rw [List.getElem?_set_self hi] at e
      cases e
      exact ⟨_, h1, rp⟩
    · rw [List.getElem?_set_ne hj] at e
      have q := S.sl j s e
      cases s with
      | no => trivial
      | sh d' => obtain ⟨v, q1, q2⟩ := q; exact ⟨v, q1, Rep.mono ef _ _ q2⟩
      | own d' =>
        obtain ⟨p', q1, q2, q3, q4, q5⟩ := q
        have hpp : p' ≠ p := fun z => by
          subst z
          exact S.ap i j d d' hj h e (h1.trans q1.symm)
        exact ⟨p', q1, q2.mono ef fun _ z => z, by rw [upd_ne hpp]; exact q3, q4, q5⟩
  · have hj : i ≠ j := fun z => by
      subst z
      rw [List.getElem?_set_self hi] at ej; cases ej
    have hk : i ≠ k := fun z => by
      subst z
      rw [List.getElem?_set_self hi] at ek; cases ek
    rw [List.getElem?_set_ne hj] at ej
    rw [List.getElem?_set_ne hk] at ek
    exact S.ap j k d' e' hjk ej ek
/-- a fresh result is frozen -/
theorem Sta.frzRes (S : Sta K F0 T F G H r σ) {d : D} {v : V} (hD : isDic d = false) (h : ResOk K T F G H r σ (.fr d) v) : ∃ F', Ex F F' ∧ Sta K F0 T F' G H r σ ∧ Rep K F' d v := by
  obtain ⟨p, rfl, h2, h3, h4, h5, h6⟩ := h
  obtain ⟨o, ho⟩ := h2.there
  have ef : Ex F (upd F p o) := Ex.new h3
  have rp : Rep K (upd F p o) d (.ref p) := by
    cases d with
    | lst ds =>
      obtain ⟨vs, q1, q2⟩ := h2
      rw [ho] at q1; cases q1
      exact ⟨p, vs, rfl, .inl upd_same, RepL.mono ef _ _ q2⟩
    | dic ks ds => cases hD
    | obj C ns ds => cases hD
    | slo C dx is ds => cases hD
    | xdo x b => cases hD
    | tab q => cases hD
    | hob o => cases hD
    | _ => exact h2.elim
  refine ⟨upd F p o, ef, ⟨S.bas.frz ho h3 h4 h5, S.len, fun j s e => ?_, S.ap⟩, rp⟩
  have q := S.sl j s e
  cases s with
  | no => trivial
  | sh d' => obtain ⟨v, q1, q2⟩ := q; exact ⟨v, q1, Rep.mono ef _ _ q2⟩
  | own d' =>
    obtain ⟨p', q1, q2, q3, q4, q5⟩ := q
    have hpp : p' ≠ p := fun z => by
      subst z
      exact h6 j d' e q1
    exact ⟨p', q1, q2.mono ef fun _ z => z, by rw [upd_ne hpp]; exact q3, q4, q5⟩
/-- the view of a result -/
theorem Sta.view (S : Sta K F0 T F G H r σ) {x : Res} {v : V} {d : D} (h : ResOk K T F G H r σ x v) (e : vw r x = some d) : Vw K F H d v := by
  cases x with
  | sh d' => cases e; exact .inl h
  | fr d' =>
    have e' : (if isDic d' then none else some d') = some d := e
    split at e'
    · cases e'
    · cases e'; obtain ⟨p, h1, h2, _⟩ := h; exact .inr ⟨p, h1, h2⟩
  | pk i =>
    obtain ⟨h1, d', h2⟩ := h
    have e' : (match r[i]? with | some (.own d) => some d | some (.sh d) => some d | _ => none) = some d := e
    rw [h2] at e'
    cases e'
    obtain ⟨p, q1, q2, _⟩ := S.ownS h2
    rw [h1] at q1
    cases q1
    exact .inr ⟨p, rfl, q2⟩
theorem Sta.viewR (S : Sta K F0 T F G H r σ) {x : Res} {v : V} {d : D} (h : ResOk K T F G H r σ x v) (e : VwR r G x d) : Vw K F H d v := by
  rcases e with e | ⟨a, rfl, hG⟩
  · exact S.view h e
  · cases (show v = .ref a from h)
    exact .inr ⟨a, rfl, S.bas.gh _ _ hG⟩
end


/-! ### runs: the canonical readings -/
def Run (X : Cx) (e : Expr) : TE := fun σ H Q => ∀ (pins : List (Addr × Obj)) (s : Shared), Inv X pins σ H s → wpAny (model X.prog X.w) X.A (eval e X.env) (EP X pins σ Q) X.xe s
def RunT (X : Cx) (e : Expr) : TT := fun σ H Q => ∀ (pins : List (Addr × Obj)) (s : Shared), Inv X pins σ H s → wpAny (model X.prog X.w) X.A (isTrue e X.env (eval e X.env)) (TP X pins σ Q) X.xe s
def RunW (X : Cx) (e : Expr) : TT := fun σ H Q => ∀ (whole : Sem Value) (pins : List (Addr × Obj)) (s : Shared), Inv X pins σ H s → wpAny (model X.prog X.w) X.A (isTrue e X.env whole) (TP X pins σ Q) X.xe s
def RunA (X : Cx) (es : List Expr) : TA := fun σ H Q => ∀ (pos : Pos) (pins : List (Addr × Obj)) (s : Shared), Inv X pins σ H s → wpAny (model X.prog X.w) X.A (spliced (backTo pos (starEach es X.env))) (AP X pins σ Q) X.xe s
def RunS (X : Cx) (st : Stmt) : TS := fun D σ H => ∀ (pins : List (Addr × Obj)) (s : Shared), Inv X pins σ H s → wpAny (model X.prog X.w) X.A (exec st X.env) (SP X pins D) X.xe s
def RunB (X : Cx) (st : List Stmt) : TS := fun D σ H => ∀ (pins : List (Addr × Obj)) (s : Shared), Inv X pins σ H s → wpAny (model X.prog X.w) X.A (execs st X.env) (SP X pins D) X.xe s
section
variable {X : Cx} {e : Expr} {es : List Expr} {st : Stmt} {sts : List Stmt} {σ : L2.St} {H : Hp}
theorem peR : PE X e (Run X e) := ⟨fun pins s _ _ _ I h => h pins s I⟩
theorem ptR : PT X e (RunT X e) := ⟨fun pins s _ _ _ I h => h pins s I⟩
theorem pwR : PW X e (RunW X e) := ⟨fun w pins s _ _ _ I h => h w pins s I⟩
theorem paR : PA X es (RunA X es) := ⟨fun pos pins s _ _ _ I h => h pos pins s I⟩
theorem psR : PS X st (RunS X st) := ⟨fun pins s _ _ _ I h => h pins s I⟩
theorem pbR : PSs X sts (RunB X sts) := ⟨fun pins s _ _ _ I h => h pins s I⟩
theorem Run.of {t : TE} {Q : VK} (h : PE X e t) (q : t σ H Q) : Run X e σ H Q := fun pins s I => h.run pins s σ H Q I q
theorem RunT.of {t : TT} {Q : Bool → Hp → Prop} (h : PT X e t) (q : t σ H Q) : RunT X e σ H Q := fun pins s I => h.run pins s σ H Q I q
theorem RunW.of {t : TT} {Q : Bool → Hp → Prop} (h : PW X e t) (q : t σ H Q) : RunW X e σ H Q := fun w pins s I => h.run w pins s σ H Q I q
theorem RunA.of {t : TA} {Q : List V → Hp → Prop} (h : PA X es t) (q : t σ H Q) : RunA X es σ H Q := fun pos pins s I => h.run pos pins s σ H Q I q
theorem RunS.of {t : TS} {D : Ends} (h : PS X st t) (q : t D σ H) : RunS X st D σ H := fun pins s I => h.run pins s σ H D I q
theorem RunB.of {t : TS} {D : Ends} (h : PSs X sts t) (q : t D σ H) : RunB X sts D σ H := fun pins s I => h.run pins s σ H D I q
theorem Run.mono {Q Q' : VK} (h : Run X e σ H Q) (k : ∀ v H', Q v H' → Q' v H') : Run X e σ H Q' := fun pins s I =>
  wpAny_mono (h pins s I) (fun _ _ ⟨v, H', I', r, q⟩ => ⟨v, H', I', r, k v H' q⟩) fun _ _ x => x
theorem RunT.mono {Q Q' : Bool → Hp → Prop} (h : RunT X e σ H Q) (k : ∀ v H', Q v H' → Q' v H') : RunT X e σ H Q' := fun pins s I =>
  wpAny_mono (h pins s I) (fun _ _ ⟨H', I', q⟩ => ⟨H', I', k _ H' q⟩) fun _ _ x => x
theorem RunA.mono {Q Q' : List V → Hp → Prop} (h : RunA X es σ H Q) (k : ∀ v H', Q v H' → Q' v H') : RunA X es σ H Q' := fun pos pins s I =>
  wpAny_mono (h pos pins s I) (fun _ _ ⟨vs, H', I', r, q⟩ => ⟨vs, H', I', r, k _ H' q⟩) fun _ _ x => x
theorem SP.mono {pins : List (Addr × Obj)} {D D' : Ends} {f : Flow} {s : Shared} (h : SP X pins D f s) (k1 : ∀ σ H, D.nx σ H → D'.nx σ H) (k2 : ∀ v H, D.rt v H → D'.rt v H) (k3 : ∀ σ H, D.bk σ H → D'.bk σ H) (k4 : ∀ σ H, D.ct σ H → D'.ct σ H) : SP X pins D' f s := by
  cases f with
  | next => obtain ⟨a, b, c, d⟩ := h; exact ⟨a, b, c, k1 _ _ d⟩
  | brk => obtain ⟨a, b, c, d⟩ := h; exact ⟨a, b, c, k3 _ _ d⟩
  | cont => obtain ⟨a, b, c, d⟩ := h; exact ⟨a, b, c, k4 _ _ d⟩
  | ret u => obtain ⟨v, a, b, c, r, d⟩ := h; exact ⟨v, a, b, c, r, k2 _ _ d⟩
theorem RunS.mono {D D' : Ends} (h : RunS X st D σ H) (k1 : ∀ σ H, D.nx σ H → D'.nx σ H) (k2 : ∀ v H, D.rt v H → D'.rt v H) (k3 : ∀ σ H, D.bk σ H → D'.bk σ H) (k4 : ∀ σ H, D.ct σ H → D'.ct σ H) : RunS X st D' σ H := fun pins s I =>
  wpAny_mono (h pins s I) (fun _ _ q => SP.mono q k1 k2 k3 k4) fun _ _ x => x
theorem RunB.mono {D D' : Ends} (h : RunB X sts D σ H) (k1 : ∀ σ H, D.nx σ H → D'.nx σ H) (k2 : ∀ v H, D.rt v H → D'.rt v H) (k3 : ∀ σ H, D.bk σ H → D'.bk σ H) (k4 : ∀ σ H, D.ct σ H → D'.ct σ H) : RunB X sts D' σ H := fun pins s I =>
  wpAny_mono (h pins s I) (fun _ _ q => SP.mono q k1 k2 k3 k4) fun _ _ x => x
end

/-! ### contexts with a base: what was frozen, and what others hold, at the entry; what is wanted of an exception -/
structure Exn where
  cls : Value
  fs : List (Str × D)
structure Cy extends L2.Cx where
  F0 : Hp
  T : Hp
  QX : Exn → Env2 → GD → Prop
instance : Coe Cy L2.Cx := ⟨Cy.toCx⟩
instance : CoeHead Cy L2.Cx := ⟨Cy.toCx⟩
structure Lk (X : Cy) (F0 T : Hp) : Prop where
  t : Ex X.T T
  f : Ex X.F0 F0
  ft : ∀ a o, F0 a = some o → X.F0 a = some o ∨ X.T a = none
theorem none_of {A B : Hp} (e : Ex A B) {a : Addr} (h : B a = none) : A a = none := by
  cases q : A a with
  | none => rfl
  | some o => rw [e a o q] at h; cases h
theorem Lk.base {X : Cy} {F0 T F : Hp} {G : GD} {H : Hp} (lk : Lk X F0 T) (B : Bas X.K F0 T F G H) : Lk X F T :=
  ⟨lk.t, lk.f.trans B.ff, fun a o h => (B.ft a o h).elim (fun z => lk.ft a o z) fun z => .inr (none_of lk.t z)⟩
theorem Lk.ext {X : Cy} {F0 T T' : Hp} (lk : Lk X F0 T) (e : Ex T T') : Lk X F0 T' := ⟨lk.t.trans e, lk.f, lk.ft⟩
theorem Lk.bas {X : Cy} {K : PySem.W.Frag} {F0 T F : Hp} {G : GD} {H : Hp} (lk : Lk X F0 T) (B : Bas K F0 T F G H) : Bas K X.F0 X.T F G H :=
  ⟨lk.f.trans B.ff, fun a o h => (B.ft a o h).elim (fun z => lk.ft a o z) fun z => .inr (none_of lk.t z), B.fh, B.gh, B.fg, fun a o h => none_of lk.t (B.gt a o h), lk.t.trans B.tk⟩
theorem Lk.sta {X : Cy} {K : PySem.W.Frag} {F0 T F : Hp} {G : GD} {H : Hp} {r : Env2} {σ : L2.St} (lk : Lk X F0 T) (S : Sta K F0 T F G H r σ) : Sta K X.F0 X.T F G H r σ := by
  refine ⟨lk.bas S.bas, S.len, fun i s e => ?_, S.ap⟩
  have h := S.sl i s e
  cases s with
  | no => trivial
  | sh d => exact h
  | own d =>
    obtain ⟨p, h1, h2, h3, h4, h5⟩ := h
    exact ⟨p, h1, h2, h3, h4, none_of lk.t h5⟩
/-- an exception (its class, its dict) as data -/
def ExOk (K : PySem.W.Frag) (F : Hp) (cls : Value) (d : Option Addr) (x : Exn) : Prop :=
  x.cls = cls ∧ ((d = none ∧ x.fs = []) ∨ ∃ a vs, d = some a ∧ F a = some (.xd ((x.fs.map (·.1)).zip vs)) ∧ RepL K F (x.fs.map (·.2)) vs)
theorem ExOk.mono {K : PySem.W.Frag} {F F' : Hp} {cls : Value} {d : Option Addr} {x : Exn} (e : Ex F F') (h : ExOk K F cls d x) : ExOk K F' cls d x := by
  obtain ⟨h1, ⟨h2, h3⟩ | ⟨a, vs, h2, h3, h4⟩⟩ := h
  · exact ⟨h1, .inl ⟨h2, h3⟩⟩
  · exact ⟨h1, .inr ⟨a, vs, h2, e _ _ h3, RepL.mono e _ _ h4⟩⟩
/-- the wish of a context -/
def Cy.WX (X : Cy) : L2.WX := fun cls d σ H => ∃ r G F x, Sta X.K X.F0 X.T F G H r σ ∧ ExOk X.K F cls d x ∧ X.QX x r G
def Cy.Tk (X : Cy) : Prop := L2.Takes X.toCx X.WX
/-! ### the judgements over data -/
def PostE (K : PySem.W.Frag) (F0 T F : Hp) (σ : L2.St) (Q : Res → Env2 → GD → Prop) : VK := fun v H' =>
  ∃ x r' G' F', Ex F F' ∧ Sta K F0 T F' G' H' r' σ ∧ ResOk K T F' G' H' r' σ x v ∧ Q x r' G'
def WE (X : Cy) (e : Expr) (r : Env2) (G : GD) (Q : Res → Env2 → GD → Prop) : Prop :=
  ∀ (F0 T F H : Hp) (σ : L2.St), Lk X F0 T → Sta X.K F0 T F G H r σ → Run X e σ H (PostE X.K F0 T F σ Q)
def PostT (K : PySem.W.Frag) (F0 T F : Hp) (σ : L2.St) (Q : Bool → Env2 → GD → Prop) : Bool → Hp → Prop := fun b H' =>
  ∃ r' G' F', Ex F F' ∧ Sta K F0 T F' G' H' r' σ ∧ Q b r' G'
def WT (X : Cy) (e : Expr) (r : Env2) (G : GD) (Q : Bool → Env2 → GD → Prop) : Prop :=
  ∀ (F0 T F H : Hp) (σ : L2.St), Lk X F0 T → Sta X.K F0 T F G H r σ → RunT X e σ H (PostT X.K F0 T F σ Q)
def WW (X : Cy) (e : Expr) (r : Env2) (G : GD) (Q : Bool → Env2 → GD → Prop) : Prop :=
  ∀ (F0 T F H : Hp) (σ : L2.St), Lk X F0 T → Sta X.K F0 T F G H r σ → RunW X e σ H (PostT X.K F0 T F σ Q)
def PostA (K : PySem.W.Frag) (F0 T F : Hp) (σ : L2.St) (Q : List D → Env2 → GD → Prop) : List V → Hp → Prop := fun vs H' =>
  ∃ ds r' G' F', Ex F F' ∧ Sta K F0 T F' G' H' r' σ ∧ RepL K F' ds vs ∧ Q ds r' G'
def WA (X : Cy) (es : List Expr) (r : Env2) (G : GD) (Q : List D → Env2 → GD → Prop) : Prop :=
  ∀ (F0 T F H : Hp) (σ : L2.St), Lk X F0 T → Sta X.K F0 T F G H r σ → RunA X es σ H (PostA X.K F0 T F σ Q)
structure EndsD where
  nx : Env2 → GD → Prop
  rt : Res → GD → Prop
  bk : Env2 → GD → Prop := fun _ _ => False
  ct : Env2 → GD → Prop := fun _ _ => False
def PostN (K : PySem.W.Frag) (F0 T : Hp) (Q : Env2 → GD → Prop) : L2.St → Hp → Prop := fun σ' H' => ∃ r' G' F', Sta K F0 T F' G' H' r' σ' ∧ Q r' G'
def PostR (K : PySem.W.Frag) (F0 T : Hp) (Q : Res → GD → Prop) : VK := fun v H' => ∃ x G' F', Bas K F0 T F' G' H' ∧ RtOk K T F' G' H' x v ∧ Q x G'
def EndsD.at (K : PySem.W.Frag) (F0 T : Hp) (D : EndsD) : Ends := { nx := PostN K F0 T D.nx, rt := PostR K F0 T D.rt, bk := PostN K F0 T D.bk, ct := PostN K F0 T D.ct }
def WS (X : Cy) (st : Stmt) (r : Env2) (G : GD) (D : EndsD) : Prop :=
  ∀ (F0 T F H : Hp) (σ : L2.St), Lk X F0 T → Sta X.K F0 T F G H r σ → RunS X st (D.at X.K F0 T) σ H
def WB (X : Cy) (sts : List Stmt) (r : Env2) (G : GD) (D : EndsD) : Prop :=
  ∀ (F0 T F H : Hp) (σ : L2.St), Lk X F0 T → Sta X.K F0 T F G H r σ → RunB X sts (D.at X.K F0 T) σ H
/-- freezing a result -/
def fz (r : Env2) : Res → Option (D × Env2)
  | .sh d => some (d, r)
  | .fr d => if isDic d then none else some (d, r)
  | .pk i => match r[i]? with
    | some (.own d) => if isDic d then none else some (d, r.set i (.sh d))
    | _ => none
section
variable {X : Cy} {e a b c : Expr} {es : List Expr} {st : Stmt} {sts rest : List Stmt} {r : Env2} {G : GD} {pos : Pos}
theorem Sta.fz {K : PySem.W.Frag} {F0 T F : Hp} {G : GD} {H : Hp} {r r2 : Env2} {σ : L2.St} {x : Res} {v : V} {d : D} (S : Sta K F0 T F G H r σ) (h : ResOk K T F G H r σ x v) (e : fz r x = some (d, r2)) : ∃ F', Ex F F' ∧ Sta K F0 T F' G H r2 σ ∧ Rep K F' d v := by
  cases x with
  | sh d' => cases e; exact ⟨F, Ex.refl _, S, h⟩
  | fr d' =>
    have e' : (if isDic d' then none else some (d', r)) = some (d, r2) := e
    cases hD : isDic d' with
    | true => rw [hD] at e'; cases e'
    | false =>
      rw [hD] at e'
      cases e'
      exact S.frzRes hD h
  | pk i =>
    obtain ⟨h1, d', h2⟩ := h
    have e' : (match r[i]? with | some (.own d) => if isDic d then none else some (d, r.set i (.sh d)) | _ => none) = some (d, r2) := e
    rw [h2] at e'
    dsimp only at e'
    have hD : isDic d' = false := by
      cases hD : isDic d' with
      | true => rw [hD] at e'; cases e'
      | false => rfl
    rw [hD] at e'
    cases e'
    obtain ⟨F', k1, k2, v', k3, k4⟩ := S.frzSlot hD h2
    rw [h1] at k3
    cases k3
    exact ⟨F', k1, k2, k4⟩
theorem WE.mono {Q Q' : Res → Env2 → GD → Prop} (h : WE X e r G Q) (k : ∀ x r' G', Q x r' G' → Q' x r' G') : WE X e r G Q' := fun F0 T F H σ lk S =>
  (h F0 T F H σ lk S).mono fun _ _ ⟨x, r', G', F', a, b, c, q⟩ => ⟨x, r', G', F', a, b, c, k _ _ _ q⟩
theorem WT.mono {Q Q' : Bool → Env2 → GD → Prop} (h : WT X e r G Q) (k : ∀ x r' G', Q x r' G' → Q' x r' G') : WT X e r G Q' := fun F0 T F H σ lk S =>
  (h F0 T F H σ lk S).mono fun _ _ ⟨r', G', F', a, b, q⟩ => ⟨r', G', F', a, b, k _ _ _ q⟩
theorem WB.mono {D D' : EndsD} (h : WB X sts r G D) (k1 : ∀ r G, D.nx r G → D'.nx r G) (k2 : ∀ x G, D.rt x G → D'.rt x G) (k3 : ∀ r G, D.bk r G → D'.bk r G) (k4 : ∀ r G, D.ct r G → D'.ct r G) : WB X sts r G D' := fun F0 T F H σ lk S =>
  (h F0 T F H σ lk S).mono (fun _ _ ⟨r', G', F', a, q⟩ => ⟨r', G', F', a, k1 _ _ q⟩) (fun _ _ ⟨x, G', F', a, b, q⟩ => ⟨x, G', F', a, b, k2 _ _ q⟩) (fun _ _ ⟨r', G', F', a, q⟩ => ⟨r', G', F', a, k3 _ _ q⟩) (fun _ _ ⟨r', G', F', a, q⟩ => ⟨r', G', F', a, k4 _ _ q⟩)
theorem WB.weak {r' : Env2} {D : EndsD} (w : Wk r r') (h : WB X sts r' G D) : WB X sts r G D := fun F0 T F H σ lk S => h F0 T F H σ lk (S.weak w)

/-! ### names and constants -/
theorem we_const {v : V} {d : D} {Q : Res → Env2 → GD → Prop} (h : PE X e (tC v)) (hd : ∀ K F, Rep K F d v) (q : Q (.sh d) r G) : WE X e r G Q := fun F0 T F H σ lk S =>
  Run.of h ⟨.sh d, r, G, F, Ex.refl _, S, hd _ _, q⟩
theorem we_int {i : Int} {j} {Q : Res → Env2 → GD → Prop} (q : Q (.sh (.int i)) r G) : WE X (.Constant (.int i) j pos) r G Q := we_const (d := .int i) pe_int (fun _ _ => rfl) q
theorem we_bl {i : Bool} {j} {Q : Res → Env2 → GD → Prop} (q : Q (.sh (.bl i)) r G) : WE X (.Constant (.bool i) j pos) r G Q := we_const (d := .bl i) pe_bl (fun _ _ => rfl) q
theorem we_str {i : Str} {j} {Q : Res → Env2 → GD → Prop} (q : Q (.sh (.str i)) r G) : WE X (.Constant (.str i) j pos) r G Q := we_const (d := .str i) pe_str (fun _ _ => rfl) q
theorem we_non {j} {Q : Res → Env2 → GD → Prop} (q : Q (.sh .non) r G) : WE X (.Constant .none j pos) r G Q := we_const (d := .non) pe_non (fun _ _ => rfl) q
/-- what reading a slot gives -/
def rdS (r : Env2) (i : Nat) : Option Res := match r[i]? with
  | some (.sh d) => some (.sh d)
  | some (.own _) => some (.pk i)
  | _ => none
theorem we_var (i : Nat) {x : Str} {y : Res} {Q : Res → Env2 → GD → Prop} (hN : X.N[i]? = some x) (hv : Vis X.env.scope x) (hy : rdS r i = some y) (q : Q y r G) (hd : (x == ("__debug__" : Str)) = false := by decide) (hcd : (x == ("__classdict__" : Str)) = false := by decide) :
    WE X (.Name x pos) r G Q := fun F0 T F H σ lk S => by
  refine Run.of (pe_var hN hv hd hcd) ?_
  cases hr : r[i]? with
  | none => unfold rdS at hy; rw [hr] at hy; cases hy
  | some s =>
    unfold rdS at hy
    rw [hr] at hy
    cases s with
    | no => cases hy
    | sh d =>
      cases hy
      obtain ⟨v, h1, h2⟩ := S.slot hr
      exact ⟨v, h1, .sh d, r, G, F, Ex.refl _, S, h2, q⟩
    | own d =>
      cases hy
      obtain ⟨p, h1, h2⟩ := S.ownS hr
      exact ⟨.ref p, h1, .pk i, r, G, F, Ex.refl _, S, ⟨h1, d, hr⟩, q⟩
/-- a constant of the module -/
theorem we_globI {x : Str} {i : Int} {t : Tok} {Q : Res → Env2 → GD → Prop} (hg : Gl X x) (hm : X.mg x = some (.int i t)) (q : Q (.sh (.int i)) r G) (hd : (x == ("__debug__" : Str)) = false := by decide) : WE X (.Name x pos) r G Q := we_const (v := .int i) (d := .int i) (pe_glob hg hm ⟨t, rfl⟩ hd) (fun _ _ => rfl) q
theorem we_globS {x : Str} {i : Str} {t : Tok} {Q : Res → Env2 → GD → Prop} (hg : Gl X x) (hm : X.mg x = some (.str i t)) (q : Q (.sh (.str i)) r G) (hd : (x == ("__debug__" : Str)) = false := by decide) : WE X (.Name x pos) r G Q := we_const (v := .str i) (d := .str i) (pe_glob hg hm ⟨t, rfl⟩ hd) (fun _ _ => rfl) q
theorem we_globR {x : Str} {a : Addr} {Q : Res → Env2 → GD → Prop} (hg : Gl X x) (hm : X.mg x = some (.ref a)) (q : Q (.sh (.adr a)) r G) (hd : (x == ("__debug__" : Str)) = false := by decide) : WE X (.Name x pos) r G Q := we_const (v := .ref a) (d := .adr a) (pe_glob hg hm (v := .ref a) rfl hd) (fun _ _ => rfl) q

/-! ### operators -/
/-- a two-place operation on viewed data -/
def OpW (X : Cy) (f : Value → Value → Sem Value) (da db : D) (Q : Res → Prop) : Prop :=
  ∀ (F0 T F : Hp) (G : GD) (H : Hp) (r : Env2) (σ : L2.St) (va vb : V), Sta X.K F0 T F G H r σ → Vw X.K F H da va → Vw X.K F H db vb →
    ∃ rr : R2, OpR X f rr ∧ rr va vb H (fun v H' => ∃ x F', Ex F F' ∧ Sta X.K F0 T F' G H' r σ ∧ ResOk X.K T F' G H' r σ x v ∧ Q x)
def opU (X : Cy) (f : Value → Value → Sem Value) : R2 := fun x y H Q => ∃ rr : R2, OpR X f rr ∧ rr x y H Q
theorem opU_ok (f : Value → Value → Sem Value) : OpR X f (opU X f) := fun pins s σ H x y v u Q I rx ry ⟨rr, h1, h2⟩ => h1 pins s σ H x y v u Q I rx ry h2
/-- a held result, its view at a later state -/
theorem hold {K : PySem.W.Frag} {F0 T F : Hp} {G : GD} {H : Hp} {r : Env2} {σ : L2.St} {x : Res} {v : V} (S : Sta K F0 T F G H r σ) (h : ResOk K T F G H r σ x v) :
    ∃ F1, Ex F F1 ∧ Sta K F0 T F1 G H r σ ∧ ∀ (F2 : Hp) (G2 : GD) (H2 : Hp) (r2 : Env2) (d : D), Ex F1 F2 → Sta K F0 T F2 G2 H2 r2 σ → VwR r2 G2 x d → Vw K F2 H2 d v := by
  have red : ∀ (F2 : Hp) (G2 : GD) (H2 : Hp) (r2 : Env2) (d : D), Sta K F0 T F2 G2 H2 r2 σ → (vw r2 x = some d → Vw K F2 H2 d v) → VwR r2 G2 x d → Vw K F2 H2 d v := fun F2 G2 H2 r2 d S2 k e => by
    rcases e with e | ⟨a, rfl, hG⟩
    · exact k e
    · cases (show v = .ref a from h)
      exact .inr ⟨a, rfl, S2.bas.gh _ _ hG⟩
  cases x with
  | sh d => exact ⟨F, Ex.refl _, S, fun F2 G2 H2 r2 d' ex S2 e => red F2 G2 H2 r2 d' S2 (fun e => by cases e; exact .inl (Rep.mono ex _ _ h)) e⟩
  | fr d =>
    cases hD : isDic d with
    | true =>
      refine ⟨F, Ex.refl _, S, fun F2 G2 H2 r2 d' ex S2 e => red F2 G2 H2 r2 d' S2 (fun e => ?_) e⟩
      have e' : (if isDic d then none else some d) = some d' := e
      rw [hD] at e'; cases e'
    | false =>
      obtain ⟨F1, k1, k2, k3⟩ := S.frzRes hD h
      refine ⟨F1, k1, k2, fun F2 G2 H2 r2 d' ex S2 e => red F2 G2 H2 r2 d' S2 (fun e => ?_) e⟩
      have e' : (if isDic d then none else some d) = some d' := e
      rw [hD] at e'; cases e'
      exact .inl (Rep.mono ex _ _ k3)
  | pk i =>
    refine ⟨F, Ex.refl _, S, fun F2 G2 H2 r2 d' ex S2 e => red F2 G2 H2 r2 d' S2 (fun e => ?_) e⟩
    obtain ⟨h1, d, h2⟩ := h
    have e' : (match r2[i]? with | some (.own d) => some d | some (.sh d) => some d | _ => none) = some d' := e
    cases hr : r2[i]? with
    | none => rw [hr] at e'; cases e'
    | some s =>
      rw [hr] at e'
      cases s with
      | no => cases e'
      | sh d2 =>
        cases e'
        obtain ⟨v', q1, q2⟩ := S2.slot hr
        rw [h1] at q1; cases q1
        exact .inl q2
      | own d2 =>
        cases e'
        obtain ⟨p, q1, q2, _⟩ := S2.ownS hr
        rw [h1] at q1; cases q1
        exact .inr ⟨p, rfl, q2⟩
/-- two operands, then an operation -/
theorem two {f : Value → Value → Sem Value} {Q : Res → Env2 → GD → Prop} {F0 T F H : Hp} {σ : L2.St} (lk : Lk X F0 T) (S : Sta X.K F0 T F G H r σ)
    (h : WE X a r G fun x r1 G1 => WE X b r1 G1 fun y r2 G2 => ∃ da db, VwR r2 G2 x da ∧ VwR r2 G2 y db ∧ OpW X f da db fun z => Q z r2 G2) :
    tOp (opU X f) (Run X a) (Run X b) σ H (PostE X.K F0 T F σ Q) := by
  refine (h F0 T F H σ lk S).mono fun va H1 ⟨x, r1, G1, F1, e1, S1, k1, h1⟩ => ?_
  obtain ⟨F1', e1', S1', hv⟩ := hold S1 k1
  refine (h1 F0 T F1' H1 σ lk S1').mono fun vb H2 ⟨y, r2, G2, F2, e2, S2, k2, da, db, q1, q2, q3⟩ => ?_
  obtain ⟨rr, h3, h4⟩ := q3 F0 T F2 G2 H2 r2 σ va vb S2 (hv F2 G2 H2 r2 da e2 S2 q1) (S2.viewR k2 q2)
  have post : (fun v H' => ∃ z F', Ex F2 F' ∧ Sta X.K F0 T F' G2 H' r2 σ ∧ ResOk X.K T F' G2 H' r2 σ z v ∧ Q z r2 G2) = (fun v H' => ∃ z F', Ex F2 F' ∧ Sta X.K F0 T F' G2 H' r2 σ ∧ ResOk X.K T F' G2 H' r2 σ z v ∧ Q z r2 G2) := rfl
  refine ⟨fun u w H Q' => rr u w H (fun v H' => ∃ z F', Ex F2 F' ∧ Sta X.K F0 T F' G2 H' r2 σ ∧ ResOk X.K T F' G2 H' r2 σ z v ∧ Q z r2 G2) ∧ ∀ v H', (∃ z F', Ex F2 F' ∧ Sta X.K F0 T F' G2 H' r2 σ ∧ ResOk X.K T F' G2 H' r2 σ z v ∧ Q z r2 G2) → Q' v H', fun pins s σ H x y v u Q' I rx ry ⟨q, m⟩ => ?_, h4, fun v H' ⟨z, F', m1, m2, m3, m4⟩ => ⟨z, r2, G2, F', ((e1.trans e1').trans e2).trans m1, m2, m3, m4⟩⟩
  exact wpAny_mono (h3 pins s σ H x y v u _ I rx ry q) (fun _ _ ⟨v, H', I', rl, q⟩ => ⟨v, H', I', rl, m v H' q⟩) fun _ _ x => x
theorem we_bin {op : Operator} {Q : Res → Env2 → GD → Prop}
    (h : WE X a r G fun x r1 G1 => WE X b r1 G1 fun y r2 G2 => ∃ da db, VwR r2 G2 x da ∧ VwR r2 G2 y db ∧ OpW X (binaryOp op) da db fun z => Q z r2 G2) : WE X (.BinOp a op b pos) r G Q :=
  fun _ _ _ _ _ lk S => Run.of (pe_op (opU_ok _) peR peR) (two lk S h)
theorem we_cmp {op : CmpOp} {Q : Res → Env2 → GD → Prop} (hm : behindInMarks op b = false)
    (h : WE X a r G fun x r1 G1 => WE X b r1 G1 fun y r2 G2 => ∃ da db, VwR r2 G2 x da ∧ VwR r2 G2 y db ∧ OpW X (compareOp op) da db fun z => Q z r2 G2) : WE X (.Compare a [op] [b] pos) r G Q :=
  fun _ _ _ _ _ lk S => Run.of (pe_cmpR (opU_ok _) peR peR hm) (two lk S h)
/-- the result is a truth value -/
def isB (Q : Bool → Env2 → GD → Prop) : Res → Env2 → GD → Prop := fun x r G => ∃ c, x = .sh (.bl c) ∧ Q c r G
theorem postB {K : PySem.W.Frag} {F0 T F : Hp} {σ : L2.St} {Q : Bool → Env2 → GD → Prop} {v : V} {H' : Hp} (h : PostE K F0 T F σ (isB Q) v H') : ∃ c, v = .bl c ∧ PostT K F0 T F σ Q c H' := by
  obtain ⟨x, r', G', F', k1, k2, k3, c, rfl, k4⟩ := h
  exact ⟨c, k3, r', G', F', k1, k2, k4⟩
theorem wt_cmp {op : CmpOp} {Q : Bool → Env2 → GD → Prop} (hm : behindInMarks op b = false)
    (h : WE X a r G fun x r1 G1 => WE X b r1 G1 fun y r2 G2 => ∃ da db, VwR r2 G2 x da ∧ VwR r2 G2 y db ∧ OpW X (compareOp op) da db fun z => isB Q z r2 G2) : WT X (.Compare a [op] [b] pos) r G Q :=
  fun F0 T F H σ lk S => RunT.of (pt_cmpR (opU_ok _) peR peR hm) (by
    have q := two (Q := isB Q) lk S h
    refine Run.mono q fun va H1 q1 => Run.mono q1 fun vb H2 ⟨rr, h3, h4⟩ => ⟨fun u w H Q' => rr u w H (PostE X.K F0 T F σ (isB Q)) ∧ ∀ v H', PostE X.K F0 T F σ (isB Q) v H' → Q' v H', fun pins s σ H x y v u Q' I rx ry ⟨q, m⟩ => ?_, h4, fun v H' z => postB z⟩
    exact wpAny_mono (h3 pins s σ H x y v u _ I rx ry q) (fun _ _ ⟨v, H', I', rl, q⟩ => ⟨v, H', I', rl, m v H' q⟩) fun _ _ x => x)
/-- a value as a test -/
theorem wt_val {Q : Bool → Env2 → GD → Prop} (he : ∀ whole, isTrue e X.env whole = (do let v ← whole; standAt e.pos; holding [v] (truthy v))) (h : WE X e r G (isB Q)) : WT X e r G Q :=
  fun F0 T F H σ lk S => RunT.of (pt_val peR he) ((h F0 T F H σ lk S).mono fun v H' q => postB q)
theorem wt_not {Q : Bool → Env2 → GD → Prop} (h : WT X a r G fun c => Q (!c)) : WT X (.UnaryOp .Not a pos) r G Q :=
  fun F0 T F H σ lk S => RunT.of (pt_not ptR) (h F0 T F H σ lk S)
theorem wt_w {Q : Bool → Env2 → GD → Prop} (h : WW X e r G Q) : WT X e r G Q := fun F0 T F H σ lk S pins s I => h F0 T F H σ lk S _ pins s I
theorem ww_and1 {Q : Bool → Env2 → GD → Prop} (h : WT X a r G Q) : WW X (.BoolOp .And [a] pos) r G Q := fun F0 T F H σ lk S => RunW.of (pw_and1 ptR) (h F0 T F H σ lk S)
theorem ww_or1 {Q : Bool → Env2 → GD → Prop} (h : WT X a r G Q) : WW X (.BoolOp .Or [a] pos) r G Q := fun F0 T F H σ lk S => RunW.of (pw_or1 ptR) (h F0 T F H σ lk S)
theorem ww_and {Q : Bool → Env2 → GD → Prop} (h : WT X a r G fun c r1 G1 => (c = true → WW X (.BoolOp .And (b :: es) pos) r1 G1 Q) ∧ (c = false → Q false r1 G1)) : WW X (.BoolOp .And (a :: b :: es) pos) r G Q := fun F0 T F H σ lk S =>
  RunW.of (pw_and ptR pwR) ((h F0 T F H σ lk S).mono fun c H1 ⟨r1, G1, F1, e1, S1, q1, q2⟩ => by
    cases c with
    | true => rw [if_pos rfl]; exact fun w pins s I => wpAny_mono (q1 rfl F0 T F1 H1 σ lk S1 w pins s I) (fun _ _ ⟨H', I', r', G', F', k1, k2, k3⟩ => ⟨H', I', r', G', F', e1.trans k1, k2, k3⟩) fun _ _ x => x
    | false => rw [if_neg Bool.false_ne_true]; exact ⟨r1, G1, F1, e1, S1, q2 rfl⟩)
theorem ww_or {Q : Bool → Env2 → GD → Prop} (h : WT X a r G fun c r1 G1 => (c = false → WW X (.BoolOp .Or (b :: es) pos) r1 G1 Q) ∧ (c = true → Q true r1 G1)) : WW X (.BoolOp .Or (a :: b :: es) pos) r G Q := fun F0 T F H σ lk S =>
  RunW.of (pw_or ptR pwR) ((h F0 T F H σ lk S).mono fun c H1 ⟨r1, G1, F1, e1, S1, q1, q2⟩ => by
    cases c with
    | true => rw [if_pos rfl]; exact ⟨r1, G1, F1, e1, S1, q2 rfl⟩
    | false => rw [if_neg Bool.false_ne_true]; exact fun w pins s I => wpAny_mono (q1 rfl F0 T F1 H1 σ lk S1 w pins s I) (fun _ _ ⟨H', I', r', G', F', k1, k2, k3⟩ => ⟨H', I', r', G', F', e1.trans k1, k2, k3⟩) fun _ _ x => x)
/-- and, or, not as values (truth values) -/
theorem PostE.ext {K : PySem.W.Frag} {F0 T F F1 : Hp} {σ : L2.St} {Q : Res → Env2 → GD → Prop} (e : Ex F F1) {v : V} {H : Hp} (h : PostE K F0 T F1 σ Q v H) : PostE K F0 T F σ Q v H := by
  obtain ⟨x, r', G', F', k1, k2⟩ := h
  exact ⟨x, r', G', F', e.trans k1, k2⟩
theorem we_one {op} {Q : Res → Env2 → GD → Prop} (h : WE X a r G Q) : WE X (.BoolOp op [a] pos) r G Q := fun F0 T F H σ lk S => Run.of (pe_one peR) (h F0 T F H σ lk S)
theorem we_and {Q : Res → Env2 → GD → Prop} (h : WE X a r G (isB fun c r1 G1 => (c = true → WE X (.BoolOp .And (b :: es) pos) r1 G1 Q) ∧ (c = false → Q (.sh (.bl false)) r1 G1))) : WE X (.BoolOp .And (a :: b :: es) pos) r G Q := fun F0 T F H σ lk S =>
  Run.of (pe_and peR peR) ((h F0 T F H σ lk S).mono fun v H1 q => by
    obtain ⟨c, rfl, r1, G1, F1, e1, S1, q1, q2⟩ := postB q
    refine ⟨c, rfl, ?_⟩
    cases c with
    | true => rw [if_pos rfl]; exact (q1 rfl F0 T F1 H1 σ lk S1).mono fun _ _ z => z.ext e1
    | false => rw [if_neg Bool.false_ne_true]; exact ⟨.sh (.bl false), r1, G1, F1, e1, S1, rfl, q2 rfl⟩)
theorem we_or {Q : Res → Env2 → GD → Prop} (h : WE X a r G (isB fun c r1 G1 => (c = false → WE X (.BoolOp .Or (b :: es) pos) r1 G1 Q) ∧ (c = true → Q (.sh (.bl true)) r1 G1))) : WE X (.BoolOp .Or (a :: b :: es) pos) r G Q := fun F0 T F H σ lk S =>
  Run.of (pe_or peR peR) ((h F0 T F H σ lk S).mono fun v H1 q => by
    obtain ⟨c, rfl, r1, G1, F1, e1, S1, q1, q2⟩ := postB q
    refine ⟨c, rfl, ?_⟩
    cases c with
    | true => rw [if_pos rfl]; exact ⟨.sh (.bl true), r1, G1, F1, e1, S1, rfl, q2 rfl⟩
    | false => rw [if_neg Bool.false_ne_true]; exact (q1 rfl F0 T F1 H1 σ lk S1).mono fun _ _ z => z.ext e1)
theorem we_not {Q : Res → Env2 → GD → Prop} (h : WE X a r G (isB fun c r1 G1 => Q (.sh (.bl (!c))) r1 G1)) : WE X (.UnaryOp .Not a pos) r G Q := fun F0 T F H σ lk S =>
  Run.of (pe_not peR) ((h F0 T F H σ lk S).mono fun v H1 q => by
    obtain ⟨c, rfl, r1, G1, F1, e1, S1, q1⟩ := postB q
    exact ⟨c, rfl, .sh (.bl (!c)), r1, G1, F1, e1, S1, rfl, q1⟩)
theorem we_ifExp {Q : Res → Env2 → GD → Prop} (h : WT X c r G fun d r1 G1 => (d = true → WE X a r1 G1 Q) ∧ (d = false → WE X b r1 G1 Q)) : WE X (.IfExp c a b pos) r G Q := fun F0 T F H σ lk S =>
  Run.of (pe_ifExp ptR peR peR) ((h F0 T F H σ lk S).mono fun d H1 ⟨r1, G1, F1, e1, S1, q1, q2⟩ => by
    cases d with
    | true => rw [if_pos rfl]; exact (q1 rfl F0 T F1 H1 σ lk S1).mono fun _ _ z => z.ext e1
    | false => rw [if_neg Bool.false_ne_true]; exact (q2 rfl F0 T F1 H1 σ lk S1).mono fun _ _ z => z.ext e1)

/-! ### argument lists, displays -/
theorem wa_nil {Q : List D → Env2 → GD → Prop} (q : Q [] r G) : WA X [] r G Q := fun F0 T F H σ lk S => RunA.of pa_nil ⟨[], r, G, F, Ex.refl _, S, rfl, q⟩
theorem PostA.ext {K : PySem.W.Frag} {F0 T F F1 : Hp} {σ : L2.St} {Q : List D → Env2 → GD → Prop} (e : Ex F F1) {v : List V} {H : Hp} (h : PostA K F0 T F1 σ Q v H) : PostA K F0 T F σ Q v H := by
  obtain ⟨x, r', G', F', k1, k2⟩ := h
  exact ⟨x, r', G', F', e.trans k1, k2⟩
theorem wa_cons {Q : List D → Env2 → GD → Prop} (h : WE X e r G fun x r1 G1 => ∃ d r2, fz r1 x = some (d, r2) ∧ WA X es r2 G1 fun ds r3 G3 => Q (d :: ds) r3 G3)
    (hs : starEach (e :: es) X.env = (false, eval e X.env) :: starEach es X.env := by rfl) : WA X (e :: es) r G Q := fun F0 T F H σ lk S =>
  RunA.of (pa_cons peR paR hs) ((h F0 T F H σ lk S).mono fun v H1 ⟨x, r1, G1, F1, e1, S1, k1, d, r2, q1, q2⟩ => by
    obtain ⟨F2, e2, S2, rp⟩ := S1.fz k1 q1
    refine (q2 F0 T F2 H1 σ lk S2).mono fun vs H3 ⟨ds, r3, G3, F3, e3, S3, k3, q3⟩ => ?_
    exact ⟨d :: ds, r3, G3, F3, (e1.trans e2).trans e3, S3, ⟨v, vs, rfl, Rep.mono e3 _ _ rp, k3⟩, q3⟩)
/-- how many items a display may have -/
abbrev LIM : Nat := 16777216
theorem lim_ok {n : Nat} (h : n ≤ LIM) : n ≤ sizeLine := by rw [sizeLine_eq]; exact h
theorem lim_of {n : Nat} (h : n ≤ sizeLine) : n ≤ LIM := by rw [sizeLine_eq] at h; exact h
theorem lim_lt {n : Nat} (h : n < LIM) : n < sizeLine := by rw [sizeLine_eq]; exact h
/-- what lies in a heap is not too long -/
def BL (K : PySem.W.Frag) (H : Hp) : Prop := (∀ a xs, SqL K H a xs → xs.length ≤ LIM) ∧ (∀ a xs, SqT K H a xs → xs.length ≤ LIM) ∧ ∀ a kvs, Rd H a (.dK kvs) → kvs.length ≤ LIM
theorem bl_of {X : Cx} {pins : List (Addr × Obj)} {σ : L2.St} {H : Hp} {s : Shared} (I : Inv X pins σ H s) : BL X.K H := by
  refine ⟨fun a xs h => ?_, fun a xs h => ?_, fun a kvs h => ?_⟩
  · obtain ⟨_, _, _, z⟩ := I.list h
    exact lim_of z
  · obtain ⟨_, _, _, z⟩ := I.tuple h
    exact lim_of z
  · rcases h with h | ⟨o, h⟩
    · exact lim_of (I.hok _ _ h).1
    · exact lim_of (I.hok _ _ h).2.1
theorem Run.bl {X : Cx} {e : Expr} {σ : L2.St} {H : Hp} {Q : VK} (h : Run X e σ H Q) : Run X e σ H fun v H' => BL X.K H' ∧ Q v H' := fun pins s I =>
  wpAny_mono (h pins s I) (fun _ _ ⟨v, H', I', r, q⟩ => ⟨v, H', I', r, bl_of I', q⟩) fun _ _ x => x
theorem we_tup {k} {Q : Res → Env2 → GD → Prop} (h : WA X es r G fun ds r1 G1 => ds.length ≤ LIM ∧ Q (.sh (.tup ds)) r1 G1) : WE X (.Tuple es k pos) r G Q := fun F0 T F H σ lk S =>
  Run.of (pe_tup paR) ((h F0 T F H σ lk S).mono fun vs H1 ⟨ds, r1, G1, F1, e1, S1, k1, hl, q⟩ => ⟨by rw [k1.length]; exact lim_ok hl, fun p hp => by
    have ef : Ex F1 (upd F1 p (.tup vs)) := Ex.new (S1.bas.freshF hp).1
    exact ⟨.sh (.tup ds), r1, G1, upd F1 p (.tup vs), e1.trans ef, S1.newF hp, ⟨p, vs, rfl, .inl (.inl upd_same), RepL.mono ef _ _ k1⟩, q⟩⟩)
theorem we_lst {Q : Res → Env2 → GD → Prop} (h : WA X es r G fun ds r1 G1 => ds.length ≤ LIM ∧ Q (.fr (.lst ds)) r1 G1) : WE X (.List es pos) r G Q := fun F0 T F H σ lk S =>
  Run.of (pe_lst paR) ((h F0 T F H σ lk S).mono fun vs H1 ⟨ds, r1, G1, F1, e1, S1, k1, hl, q⟩ => ⟨by rw [k1.length]; exact lim_ok hl, fun p hp => by
    obtain ⟨h1, h2, h3⟩ := S1.bas.freshF hp
    exact ⟨.fr (.lst ds), r1, G1, F1, e1, S1.newH hp, ⟨p, rfl, ⟨vs, upd_same, k1⟩, h1, h2, h3, S1.freshR hp⟩, q⟩⟩)
end


section
variable {X : Cy} {e a b c : Expr} {es : List Expr} {st : Stmt} {sts rest : List Stmt} {r : Env2} {G : GD} {pos : Pos} {Q : Res → Prop}
/-! ### operators on data -/
theorem opw_flat {f : Value → Value → Sem Value} {da db d : D} {v : V} (hd : ∀ K F, Rep K F d v) (h : ∀ F H va vb, Ex F H → Vw X.K F H da va → Vw X.K F H db vb → ∃ rr, OpR X f rr ∧ ∀ P : VK, P v H → rr va vb H P) (q : Q (.sh d)) : OpW X f da db Q :=
  fun F0 T F G H r σ va vb S h1 h2 => by
    obtain ⟨rr, k1, k2⟩ := h F H va vb S.bas.fh h1 h2
    exact ⟨rr, k1, k2 _ ⟨.sh d, F, Ex.refl _, S, hd _ _, q⟩⟩
theorem opw_add {i j : Int} (q : Q (.sh (.int (i + j)))) : OpW X (binaryOp .Add) (.int i) (.int j) Q :=
  opw_flat (d := .int (i + j)) (v := .int (i + j)) (fun _ _ => rfl) (fun F H va vb _ h1 h2 => ⟨_, op_add, fun P p => ⟨i, j, h1.int, h2.int, p⟩⟩) q
theorem opw_sub {i j : Int} (q : Q (.sh (.int (i - j)))) : OpW X (binaryOp .Sub) (.int i) (.int j) Q :=
  opw_flat (d := .int (i - j)) (v := .int (i - j)) (fun _ _ => rfl) (fun F H va vb _ h1 h2 => ⟨_, op_sub, fun P p => ⟨i, j, h1.int, h2.int, p⟩⟩) q
theorem opw_mul {i j : Int} (hc : (-(2 ^ 64) < i ∧ i < 2 ^ 64) ∨ (-(2 ^ 64) < j ∧ j < 2 ^ 64)) (q : Q (.sh (.int (i * j)))) : OpW X (binaryOp .Mult) (.int i) (.int j) Q :=
  opw_flat (d := .int (i * j)) (v := .int (i * j)) (fun _ _ => rfl) (fun F H va vb _ h1 h2 => ⟨_, op_mul, fun P p => ⟨i, j, h1.int, h2.int, hc, p⟩⟩) q
theorem opw_fdiv {i j : Int} (hc : 0 < j ∧ j < 1073741824) (q : Q (.sh (.int (i / j)))) : OpW X (binaryOp .FloorDiv) (.int i) (.int j) Q :=
  opw_flat (d := .int (i / j)) (v := .int (i / j)) (fun _ _ => rfl) (fun F H va vb _ h1 h2 => ⟨_, op_fdiv, fun P p => ⟨i, j, h1.int, h2.int, hc, p⟩⟩) q
theorem opw_mod {i j : Int} (hc : 0 < j) (q : Q (.sh (.int (i % j)))) : OpW X (binaryOp .Mod) (.int i) (.int j) Q :=
  opw_flat (d := .int (i % j)) (v := .int (i % j)) (fun _ _ => rfl) (fun F H va vb _ h1 h2 => ⟨_, op_mod, fun P p => ⟨i, j, h1.int, h2.int, hc, p⟩⟩) q
theorem opw_pow {i j : Int} (hc : 0 ≤ j ∧ j ≤ 1000000 ∧ i.natAbs < 2 ^ 64) (q : Q (.sh (.int (i ^ j.toNat)))) : OpW X (binaryOp .Pow) (.int i) (.int j) Q :=
  opw_flat (d := .int (i ^ j.toNat)) (v := .int (i ^ j.toNat)) (fun _ _ => rfl) (fun F H va vb _ h1 h2 => ⟨_, op_pow, fun P p => ⟨i, j, h1.int, h2.int, hc, p⟩⟩) q
theorem opw_lt {i j : Int} (q : Q (.sh (.bl (decide (i < j))))) : OpW X (compareOp .Lt) (.int i) (.int j) Q :=
  opw_flat (d := .bl (decide (i < j))) (v := .bl (decide (i < j))) (fun _ _ => rfl) (fun F H va vb _ h1 h2 => ⟨_, op_lt, fun P p => ⟨i, j, h1.int, h2.int, p⟩⟩) q
theorem opw_le {i j : Int} (q : Q (.sh (.bl (decide (i ≤ j))))) : OpW X (compareOp .LtE) (.int i) (.int j) Q :=
  opw_flat (d := .bl (decide (i ≤ j))) (v := .bl (decide (i ≤ j))) (fun _ _ => rfl) (fun F H va vb _ h1 h2 => ⟨_, op_le, fun P p => ⟨i, j, h1.int, h2.int, p⟩⟩) q
theorem opw_gt {i j : Int} (q : Q (.sh (.bl (decide (j < i))))) : OpW X (compareOp .Gt) (.int i) (.int j) Q :=
  opw_flat (d := .bl (decide (j < i))) (v := .bl (decide (j < i))) (fun _ _ => rfl) (fun F H va vb _ h1 h2 => ⟨_, op_gt, fun P p => ⟨i, j, h1.int, h2.int, p⟩⟩) q
theorem opw_ge {i j : Int} (q : Q (.sh (.bl (decide (j ≤ i))))) : OpW X (compareOp .GtE) (.int i) (.int j) Q :=
  opw_flat (d := .bl (decide (j ≤ i))) (v := .bl (decide (j ≤ i))) (fun _ _ => rfl) (fun F H va vb _ h1 h2 => ⟨_, op_ge, fun P p => ⟨i, j, h1.int, h2.int, p⟩⟩) q
theorem vint_eq (i j : Int) : decide (V.int i = V.int j) = decide (i = j) := by
  by_cases h : i = j
  · subst h; simp
  · simp [h]
theorem vstr_eq (i j : Str) : decide (V.str i = V.str j) = decide (i = j) := by
  by_cases h : i = j
  · subst h; simp
  · simp [h]
theorem vbl_eq (i j : Bool) : decide (V.bl i = V.bl j) = (i == j) := by cases i <;> cases j <;> decide
theorem opw_eqI {i j : Int} (q : Q (.sh (.bl (decide (i = j))))) : OpW X (compareOp .Eq) (.int i) (.int j) Q :=
  opw_flat (d := .bl (decide (i = j))) (v := .bl (decide (i = j))) (fun _ _ => rfl) (fun F H va vb _ h1 h2 => ⟨_, op_eq, fun P p => by cases h1.int; cases h2.int; exact ⟨rfl, by rw [vint_eq]; exact p⟩⟩) q
theorem opw_neI {i j : Int} (q : Q (.sh (.bl (!decide (i = j))))) : OpW X (compareOp .NotEq) (.int i) (.int j) Q :=
  opw_flat (d := .bl (!decide (i = j))) (v := .bl (!decide (i = j))) (fun _ _ => rfl) (fun F H va vb _ h1 h2 => ⟨_, op_ne, fun P p => by cases h1.int; cases h2.int; exact ⟨rfl, by rw [vint_eq]; exact p⟩⟩) q
theorem opw_eqS {i j : Str} (q : Q (.sh (.bl (decide (i = j))))) : OpW X (compareOp .Eq) (.str i) (.str j) Q :=
  opw_flat (d := .bl (decide (i = j))) (v := .bl (decide (i = j))) (fun _ _ => rfl) (fun F H va vb _ h1 h2 => ⟨_, op_eq, fun P p => by cases h1.str; cases h2.str; exact ⟨rfl, by rw [vstr_eq]; exact p⟩⟩) q
theorem opw_neS {i j : Str} (q : Q (.sh (.bl (!decide (i = j))))) : OpW X (compareOp .NotEq) (.str i) (.str j) Q :=
  opw_flat (d := .bl (!decide (i = j))) (v := .bl (!decide (i = j))) (fun _ _ => rfl) (fun F H va vb _ h1 h2 => ⟨_, op_ne, fun P p => by cases h1.str; cases h2.str; exact ⟨rfl, by rw [vstr_eq]; exact p⟩⟩) q
theorem opw_eqB {i j : Bool} (q : Q (.sh (.bl (i == j)))) : OpW X (compareOp .Eq) (.bl i) (.bl j) Q :=
  opw_flat (d := .bl (i == j)) (v := .bl (i == j)) (fun _ _ => rfl) (fun F H va vb _ h1 h2 => ⟨_, op_eq, fun P p => by cases h1.bl; cases h2.bl; exact ⟨rfl, by rw [vbl_eq]; exact p⟩⟩) q
theorem opw_neB {i j : Bool} (q : Q (.sh (.bl (!(i == j))))) : OpW X (compareOp .NotEq) (.bl i) (.bl j) Q :=
  opw_flat (d := .bl (!(i == j))) (v := .bl (!(i == j))) (fun _ _ => rfl) (fun F H va vb _ h1 h2 => ⟨_, op_ne, fun P p => by cases h1.bl; cases h2.bl; exact ⟨rfl, by rw [vbl_eq]; exact p⟩⟩) q
/-- is None -/
def isNon : D → Bool
  | .non => true
  | _ => false
theorem vw_non {K : PySem.W.Frag} {F H : Hp} {d : D} {v : V} (h : Vw K F H d v) : decide (v = .non) = isNon d := by
  rcases h with h | ⟨p, rfl, h⟩
  · cases d with
    | non => cases (show v = .non from h); rfl
    | bl b => cases (show v = .bl b from h); rfl
    | int b => cases (show v = .int b from h); rfl
    | str b => cases (show v = .str b from h); rfl
    | tup b => obtain ⟨a, vs, rfl, _⟩ := h; rfl
    | lst b => obtain ⟨a, vs, rfl, _⟩ := h; rfl
    | dic ks b => obtain ⟨a, o, vs, rfl, _⟩ := h; rfl
    | ins C b => obtain ⟨a, dx, vs, rfl, _⟩ := h; rfl
    | adr b => cases (show v = .ref b from h); rfl
    | obj _ _ _ => exact h.elim
    | slo _ _ _ _ => exact h.elim
    | xdo _ _ => exact h.elim
    | tab _ => exact h.elim
    | hob _ => obtain ⟨a, rfl, _⟩ := h; rfl
    | scr ns => obtain ⟨a, rfl, _⟩ := h; rfl
  · cases d with
    | lst b => rfl
    | dic ks b => rfl
    | obj _ _ _ => rfl
    | slo _ _ _ _ => rfl
    | xdo _ _ => rfl
    | tab _ => rfl
    | hob _ => rfl
    | _ => exact h.elim
theorem opw_isN {d : D} (q : Q (.sh (.bl (isNon d)))) : OpW X (compareOp .Is) d .non Q :=
  opw_flat (d := .bl (isNon d)) (v := .bl (isNon d)) (fun _ _ => rfl) (fun F H va vb _ h1 h2 => ⟨_, op_isN, fun P p => ⟨h2.non, by rw [vw_non h1]; exact p⟩⟩) q
theorem opw_notN {d : D} (q : Q (.sh (.bl (!isNon d)))) : OpW X (compareOp .IsNot) d .non Q :=
  opw_flat (d := .bl (!isNon d)) (v := .bl (!isNon d)) (fun _ _ => rfl) (fun F H va vb _ h1 h2 => ⟨_, op_notN, fun P p => ⟨h2.non, by rw [vw_non h1]; exact p⟩⟩) q
/-- lists and tuples joined -/
theorem lst_of {X : Cx} {pins : List (Addr × Obj)} {σ : L2.St} {H : Hp} {s : Shared} {a : Addr} {xs : List V} (I : Inv X pins σ H s) (h : Rd H a (.lst xs)) : xs.length ≤ sizeLine ∧ ∃ (its : List Value) (n : Nat), Vals xs its ∧ s.heap.get? a = some { cls := .type "list", data := .seq its.toArray n } := by
  rcases h with h | ⟨o, h⟩
  · exact I.hok _ _ h
  · exact (I.hok _ _ h).2
def rCatR : R2 := fun x y H Q => ∃ l b xs zs, x = .ref l ∧ y = .ref b ∧ Rd H l (.lst xs) ∧ Rd H b (.lst zs) ∧ xs.length + zs.length ≤ sizeLine ∧ ∀ p, H p = none → Q (.ref p) (upd H p (.lst (xs ++ zs)))
theorem op_catR {X : Cx} : OpR X (binaryOp .Add) rCatR := by
  intro pins s σ H x y v u Q I rx ry h
  obtain ⟨l, b, xs, zs, rfl, rfl, hH, hB, hz, q⟩ := h
  cases rx
  cases ry
  obtain ⟨z, its, n, r, e⟩ := lst_of I hH
  obtain ⟨z2, its2, n2, r2, e2⟩ := lst_of I hB
  have hl := r.length
  have hl2 := r2.length
  refine PySem.P.add_list e e2 ?_ (by rw [List.size_toArray, List.size_toArray]; omega)
  have ea : its.toArray ++ its2.toArray = (its ++ its2).toArray := by simp
  rw [ea]
  exact ⟨.ref _, _, I.lnew (t' := s.toks) (r.append r2) (by rw [List.length_append]; omega), rfl, q _ I.fresh⟩
theorem opw_cat {xs ys : List D} (hl : xs.length + ys.length ≤ LIM) (q : Q (.fr (.lst (xs ++ ys)))) : OpW X (binaryOp .Add) (.lst xs) (.lst ys) Q :=
  fun F0 T F G H r σ va vb S h1 h2 => by
    obtain ⟨p1, vs, rfl, k1, k2⟩ := h1.lst S.bas.fh
    obtain ⟨p2, us, rfl, k3, k4⟩ := h2.lst S.bas.fh
    exact ⟨_, op_catR, p1, p2, vs, us, rfl, rfl, k1, k3, by rw [k2.length, k4.length]; exact lim_ok hl, fun p hp => by
      obtain ⟨f1, f2, f3⟩ := S.bas.freshF hp
      exact ⟨.fr (.lst (xs ++ ys)), F, Ex.refl _, S.newH hp, ⟨p, rfl, ⟨vs ++ us, upd_same, k2.append k4⟩, f1, f2, f3, S.freshR hp⟩, q⟩⟩

theorem opw_catT {xs ys : List D} (hl : xs.length + ys.length ≤ LIM) (q : Q (.sh (.tup (xs ++ ys)))) : OpW X (binaryOp .Add) (.tup xs) (.tup ys) Q :=
  fun F0 T F G H r σ va vb S h1 h2 => by
    obtain ⟨p1, vs, rfl, k1, k2⟩ := h1.tup S.bas.fh
    obtain ⟨p2, us, rfl, k3, k4⟩ := h2.tup S.bas.fh
    have r1 : Rep X.K F (.tup xs) (.ref p1) := by
      rcases h1 with h | ⟨_, _, h⟩
      · exact h
      · exact h.elim
    have r2 : Rep X.K F (.tup ys) (.ref p2) := by
      rcases h2 with h | ⟨_, _, h⟩
      · exact h
      · exact h.elim
    refine ⟨_, op_catA, p1, p2, vs, us, rfl, rfl, k1, k3, by rw [k2.length, k4.length]; exact lim_ok hl, fun e => ?_, fun _ e => ?_, fun _ _ p hp => ?_⟩
    · have e1 : xs = [] := by have := k2.length; rw [e] at this; exact List.length_eq_zero_iff.mp this.symm
      subst e1
      exact ⟨.sh (.tup ys), F, Ex.refl _, S, r2, q⟩
    · have e1 : ys = [] := by have := k4.length; rw [e] at this; exact List.length_eq_zero_iff.mp this.symm
      subst e1
      refine ⟨.sh (.tup (xs ++ [])), F, Ex.refl _, S, ?_, q⟩
      rw [List.append_nil]
      exact r1
    · have ef : Ex F (upd F p (.tup (vs ++ us))) := Ex.new (S.bas.freshF hp).1
      exact ⟨.sh (.tup (xs ++ ys)), upd F p (.tup (vs ++ us)), ef, S.newF hp, ⟨p, vs ++ us, rfl, .inl (.inl upd_same), RepL.mono ef _ _ (k2.append k4)⟩, q⟩

/-! ### deep == -/
mutual
def toP : D → PyData
  | .non => .none
  | .bl b => .bool b
  | .int i => .int i
  | .str x => .str x
  | .tup ds => .tuple (toPs ds)
  | .lst ds => .list (toPs ds)
  | _ => .none
def toPs : List D → List PyData
  | [] => []
  | d :: ds => toP d :: toPs ds
end
def okD : Nat → D → Prop
  | _, .non => True
  | _, .bl _ => True
  | _, .int _ => True
  | _, .str x => PyData.strOk x = true
  | n + 1, .tup ds => ∀ d ∈ ds, okD n d
  | n + 1, .lst ds => ∀ d ∈ ds, okD n d
  | _, _ => False
theorem okD.dp {K : PySem.W.Frag} {F H : Hp} (e : Ex F H) : ∀ (n : Nat) (d : D) (v : V), okD n d → Vw K F H d v → Dp K H v (toP d) := by
  have all : ∀ n, (∀ (d : D) (v : V), okD n d → Vw K F H d v → Dp K H v (toP d)) → ∀ (ds : List D) (vs : List V), (∀ d ∈ ds, okD n d) → RepL K F ds vs → DpAll K H vs (toPs ds) := by
    intro n ih ds
    induction ds with
    | nil => intro vs _ h; cases (show vs = [] from h); exact .nil
    | cons d ds ih2 =>
      intro vs hk h
      obtain ⟨v, r, rfl, h1, h2⟩ := h
      exact .cons (ih d v (hk d List.mem_cons_self) (.inl h1)) (ih2 r (fun x hx => hk x (List.mem_cons_of_mem _ hx)) h2)
  intro n
  induction n with
  | zero =>
    intro d v hk h
    cases d with
    | non => cases h.non; exact .non
    | bl b => cases h.bl; exact .bl b
    | int b => cases h.int; exact .int b
    | str b => cases h.str; exact .str b
    | _ => exact hk.elim
  | succ n ih =>
    intro d v hk h
    cases d with
    | non => cases h.non; exact .non
    | bl b => cases h.bl; exact .bl b
    | int b => cases h.int; exact .int b
    | str b => cases h.str; exact .str b
    | tup ds =>
      obtain ⟨a, vs, rfl, h1, h2⟩ := h.tup e
      exact .tup h1 (all n ih ds vs hk h2)
    | lst ds =>
      obtain ⟨a, vs, rfl, h1, h2⟩ := h.lst e
      exact .lst (.inl h1) (all n ih ds vs hk h2)
    | _ => exact hk.elim
theorem okD.dep : ∀ (n : Nat) (d : D), okD n d → (toP d).depth ≤ n := by
  have all : ∀ n, (∀ d, okD n d → (toP d).depth ≤ n) → ∀ ds : List D, (∀ d ∈ ds, okD n d) → PyData.depthAll (toPs ds) ≤ n := by
    intro n ih ds
    induction ds with
    | nil => intro _; exact Nat.zero_le _
    | cons d ds ih2 =>
      intro hk
      show max (PyData.depth (toP d)) (PyData.depthAll (toPs ds)) ≤ n
      exact Nat.max_le.mpr ⟨ih d (hk d List.mem_cons_self), ih2 fun x hx => hk x (List.mem_cons_of_mem _ hx)⟩
  intro n
  induction n with
  | zero =>
    intro d hk
    cases d with
    | str b => exact Nat.le_refl _
    | non => exact Nat.le_refl _
    | bl b => exact Nat.le_refl _
    | int b => exact Nat.le_refl _
    | _ => exact hk.elim
  | succ n ih =>
    intro d hk
    cases d with
    | str b => exact Nat.zero_le _
    | non => exact Nat.zero_le _
    | bl b => exact Nat.zero_le _
    | int b => exact Nat.zero_le _
    | tup ds => exact Nat.succ_le_succ (all n ih ds hk)
    | lst ds => exact Nat.succ_le_succ (all n ih ds hk)
    | _ => exact hk.elim
theorem okD.lay : ∀ (n : Nat) (d : D), okD n d → (toP d).canLay0 = true := by
  have all : ∀ n, (∀ d, okD n d → (toP d).canLay0 = true) → ∀ ds : List D, (∀ d ∈ ds, okD n d) → PyData.canLayAll0 (toPs ds) = true := by
    intro n ih ds
    induction ds with
    | nil => intro _; rfl
    | cons d ds ih2 =>
      intro hk
      show (PyData.canLay0 (toP d) && PyData.canLayAll0 (toPs ds)) = true
      rw [ih d (hk d List.mem_cons_self), ih2 fun x hx => hk x (List.mem_cons_of_mem _ hx)]; rfl
  intro n
  induction n with
  | zero =>
    intro d hk
    cases d with
    | str b => exact hk
    | non => rfl
    | bl b => rfl
    | int b => rfl
    | _ => exact hk.elim
  | succ n ih =>
    intro d hk
    cases d with
    | str b => exact hk
    | non => rfl
    | bl b => rfl
    | int b => rfl
    | tup ds => exact all n ih ds hk
    | lst ds => exact all n ih ds hk
    | _ => exact hk.elim
theorem okD.shaped {n : Nat} {d : D} (h : okD n d) (hn : n ≤ 64) : SeqAt.shaped (toP d) = true := by
  unfold SeqAt.shaped
  rw [okD.lay n d h, decide_eq_true (Nat.le_trans (okD.dep n d h) hn)]; rfl
def eqD (a b : D) : Bool := PyData.eqv (toP a) (toP b)
theorem opw_eqD {da db : D} {n : Nat} (hu : X.A.units + 64 < cLine) (h1 : okD n da) (h2 : okD n db) (hn : n ≤ 64) (q : Q (.sh (.bl (eqD da db)))) : OpW X (compareOp .Eq) da db Q :=
  opw_flat (d := .bl (eqD da db)) (v := .bl (eqD da db)) (fun _ _ => rfl) (fun F H va vb e k1 k2 => ⟨_, op_eqD hu, fun P p => ⟨_, _, okD.dp e n _ _ h1 k1, okD.dp e n _ _ h2 k2, h1.shaped hn, h2.shaped hn, p⟩⟩) q
theorem opw_neD {da db : D} {n : Nat} (hu : X.A.units + 64 < cLine) (h1 : okD n da) (h2 : okD n db) (hn : n ≤ 64) (q : Q (.sh (.bl (!eqD da db)))) : OpW X (compareOp .NotEq) da db Q :=
  opw_flat (d := .bl (!eqD da db)) (v := .bl (!eqD da db)) (fun _ _ => rfl) (fun F H va vb e k1 k2 => ⟨_, op_neD hu, fun P p => ⟨_, _, okD.dp e n _ _ h1 k1, okD.dp e n _ _ h2 k2, h1.shaped hn, h2.shaped hn, p⟩⟩) q

/-! ### subscripts -/
def IxW (X : Cy) (da db : D) (Q : Res → Prop) : Prop :=
  ∀ (F0 T F : Hp) (G : GD) (H : Hp) (r : Env2) (σ : L2.St) (va vb : V), Sta X.K F0 T F G H r σ → Vw X.K F H da va → Vw X.K F H db vb →
    ∃ rr : R2, IxR X rr ∧ rr va vb H (fun v H' => ∃ x F', Ex F F' ∧ Sta X.K F0 T F' G H' r σ ∧ ResOk X.K T F' G H' r σ x v ∧ Q x)
def ixU (X : Cy) : R2 := fun x y H Q => ∃ rr : R2, IxR X rr ∧ rr x y H Q
theorem ixU_ok : IxR X (ixU X) := fun value slice pins s σ H x y v u Q I rx ry ⟨rr, h1, h2⟩ hs => h1 value slice pins s σ H x y v u Q I rx ry h2 hs
theorem we_ix {Q : Res → Env2 → GD → Prop} (hp : PlainIx b)
    (h : WE X a r G fun x r1 G1 => WE X b r1 G1 fun y r2 G2 => ∃ da db, VwR r2 G2 x da ∧ VwR r2 G2 y db ∧ IxW X da db fun z => Q z r2 G2) : WE X (.Subscript a b pos) r G Q :=
  fun F0 T F H σ lk S => Run.of (pe_ix ixU_ok peR peR hp) (by
    refine (h F0 T F H σ lk S).mono fun va H1 ⟨x, r1, G1, F1, e1, S1, k1, h1⟩ => ?_
    obtain ⟨F1', e1', S1', hv⟩ := hold S1 k1
    refine (h1 F0 T F1' H1 σ lk S1').mono fun vb H2 ⟨y, r2, G2, F2, e2, S2, k2, da, db, q1, q2, q3⟩ => ?_
    obtain ⟨rr, h3, h4⟩ := q3 F0 T F2 G2 H2 r2 σ va vb S2 (hv F2 G2 H2 r2 da e2 S2 q1) (S2.viewR k2 q2)
    refine ⟨fun u w H Q' => rr u w H (fun v H' => ∃ z F', Ex F2 F' ∧ Sta X.K F0 T F' G2 H' r2 σ ∧ ResOk X.K T F' G2 H' r2 σ z v ∧ Q z r2 G2) ∧ ∀ v H', (∃ z F', Ex F2 F' ∧ Sta X.K F0 T F' G2 H' r2 σ ∧ ResOk X.K T F' G2 H' r2 σ z v ∧ Q z r2 G2) → Q' v H', fun value slice pins s σ H x y v u Q' I rx ry ⟨q, m⟩ hs => ?_, h4, fun v H' ⟨z, F', m1, m2, m3, m4⟩ => ⟨z, r2, G2, F', ((e1.trans e1').trans e2).trans m1, m2, m3, m4⟩⟩
    exact wpAny_mono (h3 value slice pins s σ H x y v u _ I rx ry q hs) (fun _ _ ⟨v, H', I', rl, q⟩ => ⟨v, H', I', rl, m v H' q⟩) fun _ _ x => x)
/-- an item by an index of any sign -/
def atD (xs : List D) (i : Int) : Option D := (ixN xs.length i).bind fun j => xs[j]?
theorem atD_get {K : PySem.W.Frag} {F : Hp} {xs : List D} {vs : List V} {i : Int} {d : D} (h : RepL K F xs vs) (e : atD xs i = some d) : ∃ v, atI vs i = some v ∧ Rep K F d v := by
  unfold atD at e
  unfold atI
  rw [h.length]
  cases hj : ixN xs.length i with
  | none => rw [hj] at e; cases e
  | some j =>
    rw [hj] at e
    exact h.get e
theorem ixw_lst {xs : List D} {i : Int} {d : D} (e : atD xs i = some d) (q : Q (.sh d)) : IxW X (.lst xs) (.int i) Q := fun F0 T F G H r σ va vb S h1 h2 => by
  obtain ⟨p, vs, rfl, k1, k2⟩ := h1.lst S.bas.fh
  cases h2.int
  obtain ⟨v, k3, k4⟩ := atD_get k2 e
  exact ⟨_, ix_list, p, vs, i, v, rfl, rfl, .inl k1, k3, .sh d, F, Ex.refl _, S, k4, q⟩
theorem ixw_tup {xs : List D} {i : Int} {d : D} (e : atD xs i = some d) (q : Q (.sh d)) : IxW X (.tup xs) (.int i) Q := fun F0 T F G H r σ va vb S h1 h2 => by
  obtain ⟨p, vs, rfl, k1, k2⟩ := h1.tup S.bas.fh
  cases h2.int
  obtain ⟨v, k3, k4⟩ := atD_get k2 e
  exact ⟨_, ix_tup, p, vs, i, v, rfl, rfl, k1, k3, .sh d, F, Ex.refl _, S, k4, q⟩
theorem atD_nat {xs : List D} {j : Nat} {d : D} (e : xs[j]? = some d) : atD xs (j : Int) = some d := by
  have hj := (List.getElem?_eq_some_iff.mp e).1
  unfold atD ixN
  rw [if_pos (by omega), if_pos (by omega)]
  simpa using e
theorem atD_neg {xs : List D} {j : Nat} {d : D} (e : xs[xs.length - j]? = some d) (h0 : 0 < j) (hj : j ≤ xs.length) : atD xs (-(j : Int)) = some d := by
  unfold atD ixN
  rw [if_neg (by omega), if_pos (by omega)]
  have e2 : (-(j : Int) + (xs.length : Int)).toNat = xs.length - j := by omega
  show xs[(-(j : Int) + (xs.length : Int)).toNat]? = some d
  rw [e2]
  exact e
/-- one operand -/
theorem we_un {op : UnaryOp} {Q : Res → Env2 → GD → Prop} (hop : op = .USub) (h : WE X a r G fun x r1 G1 => ∃ i, vw r1 x = some (.int i) ∧ Q (.sh (.int (-i))) r1 G1) : WE X (.UnaryOp op a pos) r G Q := fun F0 T F H σ lk S => by
  subst hop
  exact Run.of (pe_un un_neg peR) ((h F0 T F H σ lk S).mono fun va H1 ⟨x, r1, G1, F1, e1, S1, k1, i, h1, h2⟩ => ⟨i, (S1.view k1 h1).int, .sh (.int (-i)), r1, G1, F1, e1, S1, rfl, h2⟩)
end


inductive All2 {A B : Type} (R : A → B → Prop) : List A → List B → Prop
  | nil : All2 R [] []
  | cons {a : A} {b : B} {as : List A} {bs : List B} (h : R a b) (t : All2 R as bs) : All2 R (a :: as) (b :: bs)
section
variable {X : Cy} {e a b c o : Expr} {es : List Expr} {st : Stmt} {sts rest body orelse : List Stmt} {r : Env2} {G : GD} {pos : Pos} {D0 : EndsD}
/-! ### blocks -/
theorem wb_nil (h : D0.nx r G) : WB X [] r G D0 := fun F0 T F H σ lk S => RunB.of pss_nil ⟨r, G, F, S, h⟩
theorem wb_cons (h : WS X st r G { D0 with nx := fun r1 G1 => WB X rest r1 G1 D0 }) : WB X (st :: rest) r G D0 := fun F0 T F H σ lk S =>
  RunB.of (pss_cons psR pbR) ((h F0 T F H σ lk S).mono (fun σ' H' ⟨r', G', F', S', q⟩ => q F0 T F' H' σ' lk S') (fun _ _ z => z) (fun _ _ z => z) (fun _ _ z => z))
/-- a block's state cut: what holds behind the first statement -/
theorem wb_cut (W : Env2 → GD → Prop) (h : WS X st r G { D0 with nx := W }) (k : ∀ r1 G1, W r1 G1 → WB X rest r1 G1 D0) : WB X (st :: rest) r G D0 := fun F0 T F H σ lk S =>
  RunB.of (pss_cons psR pbR) ((h F0 T F H σ lk S).mono (fun σ' H' ⟨r', G', F', S', q⟩ => k r' G' q F0 T F' H' σ' lk S') (fun _ _ z => z) (fun _ _ z => z) (fun _ _ z => z))
theorem ws_pass (h : D0.nx r G) : WS X (.Pass pos) r G D0 := fun F0 T F H σ lk S => RunS.of ps_pass ⟨r, G, F, S, h⟩
theorem ws_break (h : D0.bk r G) : WS X (.Break pos) r G D0 := fun F0 T F H σ lk S => RunS.of ps_break ⟨r, G, F, S, h⟩
theorem ws_continue (h : D0.ct r G) : WS X (.Continue pos) r G D0 := fun F0 T F H σ lk S => RunS.of ps_continue ⟨r, G, F, S, h⟩
theorem ws_if (h : WT X c r G fun d r1 G1 => (d = true → WB X body r1 G1 D0) ∧ (d = false → WB X orelse r1 G1 D0)) : WS X (.If c body orelse pos) r G D0 := fun F0 T F H σ lk S =>
  RunS.of (ps_if ptR pbR pbR) ((h F0 T F H σ lk S).mono fun d H1 ⟨r1, G1, F1, e1, S1, q1, q2⟩ => by
    cases d with
    | true => rw [if_pos rfl]; exact q1 rfl F0 T F1 H1 σ lk S1
    | false => rw [if_neg Bool.false_ne_true]; exact q2 rfl F0 T F1 H1 σ lk S1)
theorem ws_expr (h : WE X e r G fun _ r1 G1 => D0.nx r1 G1) (hs : swapsWith e none pos.line X.env = pure false := by rfl) : WS X (.Expr e pos) r G D0 := fun F0 T F H σ lk S =>
  RunS.of (ps_expr peR hs) ((h F0 T F H σ lk S).mono fun v H1 ⟨x, r1, G1, F1, e1, S1, k1, q⟩ => ⟨r1, G1, F1, S1, q⟩)
/-- what is handed out -/
def rtS (r : Env2) : Res → Option Res
  | .sh d => some (.sh d)
  | .fr d => some (.fr d)
  | .pk i => match r[i]? with
    | some (.own d) => some (.fr d)
    | _ => none
theorem ws_ret (h : WE X e r G fun x r1 G1 => ∃ y, rtS r1 x = some y ∧ D0.rt y G1) : WS X (.Return (some e) pos) r G D0 := fun F0 T F H σ lk S =>
  RunS.of (ps_ret peR) ((h F0 T F H σ lk S).mono fun v H1 ⟨x, r1, G1, F1, e1, S1, k1, y, q1, q2⟩ => by
    refine ⟨y, G1, F1, S1.bas, ?_, q2⟩
    cases x with
    | sh d => cases q1; exact k1
    | fr d => cases q1; obtain ⟨p, z1, z2, z3, z4, z5, _⟩ := k1; exact ⟨p, z1, z2, z3, z4, z5⟩
    | pk i =>
      obtain ⟨h1, d, h2⟩ := k1
      have q1' : (match r1[i]? with | some (.own d) => some (Res.fr d) | _ => none) = some y := q1
      rw [h2] at q1'
      cases q1'
      obtain ⟨p, z1, z2, z3, z4, z5⟩ := S1.ownS h2
      rw [h1] at z1; cases z1
      exact ⟨p, rfl, z2, z3, z4, z5⟩)
theorem ws_retN (h : D0.rt (.sh .non) G) : WS X (.Return none pos) r G D0 := fun F0 T F H σ lk S => RunS.of ps_retN ⟨.sh .non, G, F, S.bas, rfl, h⟩

/-! ### stores -/
def putS (r : Env2) (i : Nat) : Res → Option Env2
  | .sh d => some (r.set i (.sh d))
  | .fr d => some (r.set i (.own d))
  | .pk j => match r[j]? with
    | some (.own d) => if isDic d then none else some ((r.set j (.sh d)).set i (.sh d))
    | _ => none
theorem Sta.putS {K : PySem.W.Frag} {F0 T F : Hp} {G : GD} {H : Hp} {r r2 : Env2} {σ : L2.St} {x : Res} {v : V} {i : Nat} (S : Sta K F0 T F G H r σ) (h : ResOk K T F G H r σ x v) (hi : i < r.length) (e : putS r i x = some r2) : ∃ F', Ex F F' ∧ Sta K F0 T F' G H r2 (σ.set i (some v)) := by
  cases x with
  | sh d => cases e; exact ⟨F, Ex.refl _, S.set hi ⟨v, rfl, h⟩ fun d' z => nomatch z⟩
  | fr d =>
    cases e
    obtain ⟨p, z1, z2, z3, z4, z5, z6⟩ := h
    subst z1
    exact ⟨F, Ex.refl _, S.set hi ⟨p, rfl, z2, z3, z4, z5⟩ fun d' _ j e' he _ => z6 j e' he⟩
  | pk j =>
    obtain ⟨h1, d, h2⟩ := h
    have e' : (match r[j]? with | some (.own d) => if isDic d then none else some ((r.set j (.sh d)).set i (.sh d)) | _ => none) = some r2 := e
    rw [h2] at e'
    dsimp only at e'
    have hD : isDic d = false := by
      cases hD : isDic d with
      | true => rw [hD] at e'; cases e'
      | false => rfl
    rw [hD] at e'
    cases e'
    obtain ⟨F', k1, k2, v', k3, k4⟩ := S.frzSlot hD h2
    rw [h1] at k3; cases k3
    exact ⟨F', k1, k2.set (by rw [List.length_set]; exact hi) ⟨v, rfl, k4⟩ fun d' z => nomatch z⟩
theorem ws_set (i : Nat) {x : Str} {pos' : Pos} (hN : X.N.Nodup) (hi : X.N[i]? = some x) (hx : Loc X.env.scope x) (h : WE X e r G fun y r1 G1 => i < r1.length ∧ ∃ r2, putS r1 i y = some r2 ∧ D0.nx r2 G1)
    (hs : swapsWith e (some (.Name x pos')) pos.line X.env = pure false := by rfl) (hf : X.fn x = true ∨ X.env.scope.names.lookup x = some .local := by first | exact .inl rfl | exact .inr rfl | assumption) : WS X (.Assign [.Name x pos'] e pos) r G D0 := fun F0 T F H σ lk S =>
  RunS.of (ps_set hN hi hx peR hs hf) ((h F0 T F H σ lk S).mono fun v H1 ⟨y, r1, G1, F1, e1, S1, k1, hi', r2, q1, q2⟩ => by
    obtain ⟨F2, e2, S2⟩ := S1.putS k1 hi' q1
    exact ⟨r2, G1, F2, S2, q2⟩)
/-- x += e, on ints -/
theorem ws_augI (i : Nat) {x : Str} {n : Int} {pos' : Pos} (hN : X.N.Nodup) (hi : X.N[i]? = some x) (hx : Loc X.env.scope x) (hr : r[i]? = some (.sh (.int n))) (h : WE X e r G fun y r1 G1 => i < r1.length ∧ ∃ m, vw r1 y = some (.int m) ∧ D0.nx (r1.set i (.sh (.int (n + m)))) G1)
    (hf : X.fn x = true ∨ X.env.scope.names.lookup x = some .local := by first | exact .inl rfl | exact .inr rfl | assumption) : WS X (.AugAssign (.Name x pos') .Add e pos) r G D0 := fun F0 T F H σ lk S =>
  RunS.of (ps_aug hN hi hx peR ip_add hf) (by
    obtain ⟨v, h1, h2⟩ := S.slot hr
    cases (show v = .int n from h2)
    refine ⟨.int n, h1, (h F0 T F H σ lk S).mono fun v H1 ⟨y, r1, G1, F1, e1, S1, k1, hi', m, q1, q2⟩ => ?_⟩
    exact ⟨n, m, rfl, (S1.view k1 q1).int, r1.set i (.sh (.int (n + m))), G1, F1, S1.set hi' ⟨_, rfl, rfl⟩ (fun d' z => nomatch z), q2⟩)
/-- targets: names in a row, from frozen data -/
theorem pgs_run : ∀ {tg : List Expr} {ixs : List Nat}, All2 (fun t i => PG X t (gName i)) tg ixs → (∀ t ∈ tg, ∀ ts, (assignEach (t :: ts) X.env).map (·.2) = assign t X.env :: (assignEach ts X.env).map (·.2)) →
    PGs X tg (fun vs σ H Q => vs.length = ixs.length ∧ Q ((ixs.zip vs).foldl (fun s p => s.set p.1 (some p.2)) σ) H)
  | [], [], .nil, _ => ⟨fun pins s σ H vs us Q I rv h => (pgs_nil (X := X)).run pins s σ H vs us Q I rv ⟨List.length_eq_zero_iff.mp h.1, by
      have e : vs = [] := List.length_eq_zero_iff.mp h.1
      subst e
      exact h.2⟩⟩
  | t :: tg, i :: ixs, .cons hp hr, hs => ⟨fun pins s σ H vs us Q I rv h => by
      obtain ⟨hl, q⟩ := h
      cases vs with
      | nil => simp at hl
      | cons v vs =>
        refine (pgs_cons hp (pgs_run hr fun t' ht => hs t' (List.mem_cons_of_mem _ ht)) (hs t List.mem_cons_self tg)).run pins s σ H (v :: vs) us Q I rv ⟨v, vs, rfl, ?_⟩
        exact ⟨by simpa using hl, q⟩⟩
def setAll (r : Env2) : List Nat → List D → Env2
  | i :: is, d :: ds => setAll (r.set i (.sh d)) is ds
  | _, _ => r
theorem setAll_len : ∀ (is : List Nat) (ds : List D) (r : Env2), (setAll r is ds).length = r.length
  | [], _, _ => by unfold setAll; rfl
  | _ :: _, [], _ => by unfold setAll; rfl
  | i :: is, d :: ds, r => by unfold setAll; rw [setAll_len is ds, List.length_set]
theorem Sta.setAll {K : PySem.W.Frag} {F0 T F : Hp} {G : GD} {H : Hp} : ∀ (is : List Nat) (ds : List D) (vs : List V) {r : Env2} {σ : L2.St}, Sta K F0 T F G H r σ → RepL K F ds vs → is.length = ds.length → (∀ i ∈ is, i < r.length) →
    Sta K F0 T F G H (setAll r is ds) ((is.zip vs).foldl (fun s p => s.set p.1 (some p.2)) σ)
  | [], [], vs, r, σ, S, h, _, _ => by
    unfold RB.setAll
    exact S
  | i :: is, d :: ds, vs, r, σ, S, h, hl, hi => by
    obtain ⟨v, vr, rfl, h1, h2⟩ := h
    unfold RB.setAll
    exact Sta.setAll is ds vr (S.set (hi i List.mem_cons_self) ⟨v, rfl, h1⟩ fun d' z => nomatch z) h2 (by simpa using hl) fun j hj => by rw [List.length_set]; exact hi j (List.mem_cons_of_mem _ hj)
  | [], d :: ds, vs, r, σ, S, h, hl, _ => by simp at hl
  | i :: is, [], vs, r, σ, S, h, hl, _ => by simp at hl
/-- a, b, .. = e : e a tuple -/
theorem ws_unpack {tg : List Expr} {k : Nat} {tpos : Pos} (is : List Nat) (hc : X.calm = true) (hp : All2 (fun t i => PG X t (gName i)) tg is) (hst : ∀ t ∈ tg, ∀ ts, (assignEach (t :: ts) X.env).map (·.2) = assign t X.env :: (assignEach ts X.env).map (·.2))
    (h : WE X e r G fun y r1 G1 => ∃ ds r2, fz r1 y = some (.tup ds, r2) ∧ ds.length = is.length ∧ (∀ i ∈ is, i < r2.length) ∧ D0.nx (setAll r2 is ds) G1)
    (hn : (assignEach tg X.env).length = is.length := by rfl) (hf : (assignEach tg X.env).findIdx? (·.1) = none := by rfl)
    (hs : swapsWithSole [.Tuple tg k tpos] e pos.line X.env = pure false := by rfl) (hw : swappedStores [.Tuple tg k tpos] e X.env = pure none := by rfl)
    (h1 : (assignEach [.Tuple tg k tpos] X.env).map (·.2) = [assign (.Tuple tg k tpos) X.env] := by rfl) : WS X (.Assign [.Tuple tg k tpos] e pos) r G D0 := fun F0 T F H σ lk S =>
  RunS.of (ps_asg peR (pg_tup hc (pgs_run hp hst) hn hf) hs hw h1) ((h F0 T F H σ lk S).mono fun v H1 ⟨y, r1, G1, F1, e1, S1, k1, ds, r2, q1, q2, q3, q4⟩ => by
    obtain ⟨F2, e2, S2, rp⟩ := S1.fz k1 q1
    obtain ⟨a, vs, rfl, z1, z2⟩ := rp
    refine ⟨a, vs, rfl, S2.bas.fh.sqT z1, by rw [z2.length]; exact q2, by rw [z2.length]; exact q2, ?_⟩
    exact ⟨_, G1, F2, S2.setAll is ds vs z2 q2.symm q3, q4⟩)
/-! ### results that are held while more is evaluated -/
/-- a result that is no own slot -/
def nz (r : Env2) : Res → Option (Res × Env2)
  | .sh d => some (.sh d, r)
  | .fr d => some (.fr d, r)
  | .pk i => match r[i]? with
    | some (.own d) => if isDic d then none else some (.sh d, r.set i (.sh d))
    | _ => none
def slO : Res → Sl
  | .sh d => .sh d
  | .fr d => .own d
  | .pk _ => .no
theorem Sta.nz {K : PySem.W.Frag} {F0 T F : Hp} {G : GD} {H : Hp} {r r2 : Env2} {σ : L2.St} {x y : Res} {v : V} (S : Sta K F0 T F G H r σ) (h : ResOk K T F G H r σ x v) (e : nz r x = some (y, r2)) : ∃ F', Ex F F' ∧ Sta K F0 T F' G H r2 σ ∧ ResOk K T F' G H r2 σ y v ∧ ∀ i, y ≠ .pk i := by
  cases x with
  | sh d => cases e; exact ⟨F, Ex.refl _, S, h, fun i z => nomatch z⟩
  | fr d => cases e; exact ⟨F, Ex.refl _, S, h, fun i z => nomatch z⟩
  | pk i =>
    obtain ⟨h1, d, h2⟩ := h
    have e' : (match r[i]? with | some (.own d) => if isDic d then none else some (Res.sh d, r.set i (.sh d)) | _ => none) = some (y, r2) := e
    rw [h2] at e'
    dsimp only at e'
    have hD : isDic d = false := by
      cases hD : isDic d with
      | true => rw [hD] at e'; cases e'
      | false => rfl
    rw [hD] at e'
    cases e'
    obtain ⟨F', k1, k2, v', k3, k4⟩ := S.frzSlot hD h2
    rw [h1] at k3; cases k3
    exact ⟨F', k1, k2, k4, fun i z => nomatch z⟩
theorem holdT {K : PySem.W.Frag} {F0 T F : Hp} {G : GD} {H : Hp} {r : Env2} {σ : L2.St} {z : Res} {v : V} (S : Sta K F0 T F G H r σ) (h : ResOk K T F G H r σ z v) (hz : ∀ i, z ≠ .pk i) :
    ∃ T', Ex T T' ∧ Sta K F0 T' F G H r σ ∧ ∀ (F2 : Hp) (G2 : GD) (H2 : Hp) (r2 : Env2) (σ2 : L2.St), Ex F F2 → Sta K F0 T' F2 G2 H2 r2 σ2 → Sta K F0 T F2 G2 H2 r2 σ2 ∧ ResOk K T F2 G2 H2 r2 σ2 z v ∧
      ∀ (z2 : Res) (v2 : V), ResOk K T' F2 G2 H2 r2 σ2 z2 v2 → ResOk K T F2 G2 H2 r2 σ2 z2 v2 ∧ ∀ d d2, z = .fr d → z2 = .fr d2 → v ≠ v2 := by
  cases z with
  | pk i => exact absurd rfl (hz i)
  | sh d => exact ⟨T, Ex.refl _, S, fun F2 G2 H2 r2 σ2 ex S2 => ⟨S2, Rep.mono ex _ _ h, fun z2 v2 k => ⟨k, fun d d2 q => nomatch q⟩⟩⟩
  | fr d =>
    obtain ⟨p, rfl, z2, z3, z4, z5, z6⟩ := h
    obtain ⟨o, ho⟩ := z2.there
    refine ⟨upd T p o, Ex.new z5, ?_, ?_⟩
    · refine ⟨⟨S.bas.ff, fun q u hq => ?_, S.bas.fh, S.bas.gh, S.bas.fg, fun q u hq => ?_, fun q u hq => ?_⟩, S.len, fun i s hs => ?_, S.ap⟩
      · have hqp : q ≠ p := fun zz => by subst zz; rw [z3] at hq; cases hq
        rw [upd_ne hqp]
        exact S.bas.ft q u hq
      · have hqp : q ≠ p := fun zz => by subst zz; rw [z4] at hq; cases hq
        rw [upd_ne hqp]
        exact S.bas.gt q u hq
      · by_cases hqp : q = p
        · subst hqp; rw [upd_same] at hq; cases hq; exact ho
        · rw [upd_ne hqp] at hq; exact S.bas.tk q u hq
      · have hh := S.sl i s hs
        cases s with
        | no => trivial
        | sh d => exact hh
        | own d =>
          obtain ⟨p', y1, y2, y3, y4, y5⟩ := hh
          have hqp : p' ≠ p := fun zz => by subst zz; exact z6 i d hs y1
          exact ⟨p', y1, y2, y3, y4, by rw [upd_ne hqp]; exact y5⟩
    · intro F2 G2 H2 r2 σ2 ex S2
      have tsub : ∀ q u, T q = some u → upd T p o q = some u := fun q u hq => by
        have hqp : q ≠ p := fun zz => by subst zz; rw [z5] at hq; cases hq
        rw [upd_ne hqp]; exact hq
      have tdown : ∀ q, upd T p o q = none → T q = none := fun q hq => by
        cases hf : T q with
        | none => rfl
        | some u => rw [tsub q u hf] at hq; cases hq
      have tp : ∀ q, upd T p o q = none → q ≠ p := fun q hq zz => by subst zz; rw [upd_same] at hq; cases hq
      have fp : F2 p = none := by
        cases hf : F2 p with
        | none => rfl
        | some u =>
          rcases S2.bas.ft p u hf with zz | zz
          · have := S.bas.ff p u zz
            rw [z3] at this; cases this
          · exact absurd rfl (tp p zz)
      have gp : G2 p = none := by
        cases hf : G2 p with
        | none => rfl
        | some u => exact absurd rfl (tp p (S2.bas.gt p u hf))
      refine ⟨⟨⟨S2.bas.ff, fun q u hq => (S2.bas.ft q u hq).imp id (tdown q), S2.bas.fh, S2.bas.gh, S2.bas.fg, fun q u hq => tdown q (S2.bas.gt q u hq), fun q u hq => S2.bas.tk q u (tsub q u hq)⟩, S2.len, fun i s hs => ?_, S2.ap⟩, ⟨p, rfl, z2.mono ex fun u hu => by rw [ho] at hu; cases hu; exact S2.bas.tk p o upd_same, fp, gp, z5, fun k d' hk zz => ?_⟩, fun z2' v2 k => ?_⟩
      · have hh := S2.sl i s hs
        cases s with
        | no => trivial
        | sh d => exact hh
        | own d =>
          obtain ⟨p', k1, k2, k3, k4, k5⟩ := hh
          exact ⟨p', k1, k2, k3, k4, tdown p' k5⟩
      · obtain ⟨p', k1, _, _, _, k5⟩ := S2.ownS hk
        rw [zz] at k1; cases k1
        exact tp p k5 rfl
      · cases z2' with
        | sh d => exact ⟨k, fun d d2 _ q => nomatch q⟩
        | pk i => exact ⟨k, fun d d2 _ q => nomatch q⟩
        | fr d' =>
          obtain ⟨p2, rfl, k2, k3, k4, k5, k6⟩ := k
          exact ⟨⟨p2, rfl, k2, k3, k4, tdown p2 k5, k6⟩, fun _ _ _ _ zz => by cases zz; exact tp p k5 rfl⟩
/-- a held result goes to a slot -/
theorem Sta.setR {K : PySem.W.Frag} {F0 T F : Hp} {G : GD} {H : Hp} {r : Env2} {σ : L2.St} {z : Res} {v : V} {i : Nat} (S : Sta K F0 T F G H r σ) (h : ResOk K T F G H r σ z v) (hi : i < r.length) (hz : ∀ i, z ≠ .pk i) : Sta K F0 T F G H (r.set i (slO z)) (σ.set i (some v)) := by
  cases z with
  | pk j => exact absurd rfl (hz j)
  | sh d => exact S.set hi ⟨v, rfl, h⟩ fun d' z => nomatch z
  | fr d =>
    obtain ⟨p, rfl, z2, z3, z4, z5, z6⟩ := h
    exact S.set hi ⟨p, rfl, z2, z3, z4, z5⟩ fun d' _ j e' he _ => z6 j e' he
/-- .. and another held one stays good -/
theorem ResOk.setR {K : PySem.W.Frag} {T F : Hp} {G : GD} {H : Hp} {r : Env2} {σ : L2.St} {z z2 : Res} {v v2 : V} {i : Nat} (h2 : ResOk K T F G H r σ z2 v2) (hi : i < r.length) (hl : r.length = σ.length) (hz : ∀ i, z ≠ .pk i) (hz2 : ∀ i, z2 ≠ .pk i) (hd : ∀ d d2, z = .fr d → z2 = .fr d2 → v ≠ v2) :
    ResOk K T F G H (r.set i (slO z)) (σ.set i (some v)) z2 v2 := by
  cases z2 with
  | pk j => exact absurd rfl (hz2 j)
  | sh d => exact h2
  | fr d =>
    obtain ⟨p, rfl, k2, k3, k4, k5, k6⟩ := h2
    refine ⟨p, rfl, k2, k3, k4, k5, fun k e' he zz => ?_⟩
    by_cases hki : i = k
    · subst hki
      rw [List.getElem?_set_self hi] at he
      rw [List.getElem?_set_self (by rw [← hl]; exact hi)] at zz
      cases z with
      | pk j => exact hz j rfl
      | sh d' => cases he
      | fr d' => cases zz; exact hd d' d rfl rfl rfl
    · rw [List.getElem?_set_ne hki] at he zz
      exact k6 k e' he zz
/-- a, b = e1, e2 with local names -/
theorem ws_par (i j : Nat) {x y : Str} {px py pt : Pos} {kt k2 pt2} (hc : X.calm = true) (hN : X.N.Nodup) (hi : X.N[i]? = some x) (hj : X.N[j]? = some y) (hij : i ≠ j) (hx : X.env.scope.names.lookup x = some .local) (hy : X.env.scope.names.lookup y = some .local)
    (hw : swappedStores [.Tuple [.Name x px, .Name y py] kt pt] (.Tuple [a, b] k2 pt2) X.env = pure (some [x, y]))
    (h : WE X a r G fun z r1 G1 => ∃ z' r2, nz r1 z = some (z', r2) ∧ WE X b r2 G1 fun w r3 G3 => ∃ w' r4, nz r3 w = some (w', r4) ∧ i < r4.length ∧ j < r4.length ∧ D0.nx ((r4.set i (slO z')).set j (slO w')) G3)
    (hs : swapsWithSole [.Tuple [.Name x px, .Name y py] kt pt] (.Tuple [a, b] k2 pt2) pos.line X.env = pure false := by rfl)
    (h1 : starEach [a, b] X.env = (false, eval a X.env) :: starEach [b] X.env := by rfl) (h2 : starEach [b] X.env = (false, eval b X.env) :: starEach [] X.env := by rfl) :
    WS X (.Assign [.Tuple [.Name x px, .Name y py] kt pt] (.Tuple [a, b] k2 pt2) pos) r G D0 := fun F0 T F H σ lk S =>
  RunS.of (ps_par hc hN hi hj hij hx hy (pa_cons peR (pa_cons peR pa_nil h2) h1) hw hs) ((h F0 T F H σ lk S).mono fun v H1 ⟨z, r1, G1, F1, e1, S1, k1, z', r2, q1, q2⟩ => by
    obtain ⟨F2, e2, S2, k2, hz⟩ := S1.nz k1 q1
    obtain ⟨T', tx, S2', hold⟩ := holdT S2 k2 hz
    refine (q2 F0 T' F2 H1 σ (lk.ext tx) S2').mono fun w H3 ⟨u, r3, G3, F3, e3, S3, k3, w', r4, q3, hi', hj', q4⟩ => ?_
    obtain ⟨F4, e4, S4, k4, hz4⟩ := S3.nz k3 q3
    obtain ⟨S5, m1, m2⟩ := hold F4 G3 H3 r4 σ (e3.trans e4) S4
    obtain ⟨m3, m4⟩ := m2 w' w k4
    refine ⟨v, w, rfl, _, G3, F4, ?_, q4⟩
    exact (S5.setR m1 hi' hz).setR (m3.setR hi' S5.len hz hz4 m4) (by rw [List.length_set]; exact hj') hz4)
theorem ws_par3 (i j l : Nat) {x y z : Str} {c : Expr} {px py pz pt : Pos} {kt k2 pt2} (hc : X.calm = true) (hN : X.N.Nodup) (hi : X.N[i]? = some x) (hj : X.N[j]? = some y) (hl : X.N[l]? = some z) (hij : i ≠ j) (hil : i ≠ l) (hjl : j ≠ l)
    (hx : X.env.scope.names.lookup x = some .local) (hy : X.env.scope.names.lookup y = some .local) (hz0 : X.env.scope.names.lookup z = some .local)
    (hw : swappedStores [.Tuple [.Name x px, .Name y py, .Name z pz] kt pt] (.Tuple [a, b, c] k2 pt2) X.env = pure (some [x, y, z]))
    (h : WE X a r G fun z1 r1 G1 => ∃ z1' r2, nz r1 z1 = some (z1', r2) ∧ WE X b r2 G1 fun w r3 G3 => ∃ w' r4, nz r3 w = some (w', r4) ∧ WE X c r4 G3 fun u r5 G5 => ∃ u' r6, nz r5 u = some (u', r6) ∧ i < r6.length ∧ j < r6.length ∧ l < r6.length ∧ D0.nx (((r6.set i (slO z1')).set j (slO w')).set l (slO u')) G5)
    (hs : swapsWithSole [.Tuple [.Name x px, .Name y py, .Name z pz] kt pt] (.Tuple [a, b, c] k2 pt2) pos.line X.env = pure false := by rfl)
    (h1 : starEach [a, b, c] X.env = (false, eval a X.env) :: starEach [b, c] X.env := by rfl) (h2 : starEach [b, c] X.env = (false, eval b X.env) :: starEach [c] X.env := by rfl) (h3 : starEach [c] X.env = (false, eval c X.env) :: starEach [] X.env := by rfl) :
    WS X (.Assign [.Tuple [.Name x px, .Name y py, .Name z pz] kt pt] (.Tuple [a, b, c] k2 pt2) pos) r G D0 := fun F0 T F H σ lk S =>
  RunS.of (ps_par3 hc hN hi hj hl hij hil hjl hx hy hz0 (pa_cons peR (pa_cons peR (pa_cons peR pa_nil h3) h2) h1) hw hs) ((h F0 T F H σ lk S).mono fun v H1 ⟨z, r1, G1, F1, e1, S1, k1, z', r2, q1, q2⟩ => by
    obtain ⟨F2, e2, S2, k2, hz⟩ := S1.nz k1 q1
    obtain ⟨T', tx, S2', hold⟩ := holdT S2 k2 hz
    refine (q2 F0 T' F2 H1 σ (lk.ext tx) S2').mono fun w H3 ⟨u, r3, G3, F3, e3, S3, k3, w', r4, q3, q4⟩ => ?_
    obtain ⟨F4, e4, S4, k4, hz4⟩ := S3.nz k3 q3
    obtain ⟨T'', tx2, S4', hold'⟩ := holdT S4 k4 hz4
    refine (q4 F0 T'' F4 H3 σ ((lk.ext tx).ext tx2) S4').mono fun v5 H5 ⟨u5, r5, G5, F5, e5, S5, k5, u', r6, q5, hi', hj', hl', q6⟩ => ?_
    obtain ⟨F6, e6, S6, k6, hz6⟩ := S5.nz k5 q5
    obtain ⟨S7, m1, m2⟩ := hold' F6 G5 H5 r6 σ (e5.trans e6) S6
    obtain ⟨m3, m4⟩ := m2 u' v5 k6
    obtain ⟨S8, n1, n2⟩ := hold F6 G5 H5 r6 σ ((e3.trans e4).trans (e5.trans e6)) S7
    obtain ⟨n3, n4⟩ := n2 w' w m1
    obtain ⟨n5, n6⟩ := n2 u' v5 m3
    refine ⟨v, w, v5, rfl, _, G5, F6, ?_, q6⟩
    have A := S8.setR n1 hi' hz
    have B := n3.setR hi' S8.len hz hz4 n4
    have C := n5.setR hi' S8.len hz hz6 n6
    have hj2 : j < (r6.set i (slO z')).length := by rw [List.length_set]; exact hj'
    have hl2 : l < ((r6.set i (slO z')).set j (slO w')).length := by rw [List.length_set, List.length_set]; exact hl'
    exact (A.setR B hj2 hz4).setR (C.setR hj2 A.len hz4 hz6 m4) hl2 hz6)
end


/-! ### sorted ints -/
def isort (ns : List Int) : List Int := ns.mergeSort fun a b => decide (a ≤ b)
theorem isort_perm (ns : List Int) : (isort ns).Perm ns := List.mergeSort_perm ns _
theorem isort_sorted (ns : List Int) : (isort ns).Pairwise (· ≤ ·) := by
  have h := List.pairwise_mergeSort (le := fun a b : Int => decide (a ≤ b)) (fun a b c h1 h2 => by simp at *; omega) (fun a b => by simp; omega) ns
  exact h.imp fun h => by simpa using h
theorem sorted_unique : ∀ {xs ys : List Int}, xs.Perm ys → xs.Pairwise (· ≤ ·) → ys.Pairwise (· ≤ ·) → xs = ys := fun {xs ys} p h1 h2 =>
  List.Perm.eq_of_pairwise (le := (· ≤ ·)) (fun a b _ _ h h' => Int.le_antisymm h h') h1 h2 p
theorem isort_of {xs ys : List Int} (p : xs.Perm ys) (h : xs.Pairwise (· ≤ ·)) : xs = isort ys := sorted_unique (p.trans (isort_perm ys).symm) h (isort_sorted ys)
theorem isort_length (ns : List Int) : (isort ns).length = ns.length := (isort_perm ns).length_eq

section
variable {X : Cy} {e a b c o : Expr} {es : List Expr} {st : Stmt} {sts rest body orelse : List Stmt} {r : Env2} {G : GD} {pos p0 : Pos} {D0 : EndsD} {Q : Res → Prop}
/-! ### built-ins called with one argument, two arguments -/
def CallW1 (X : Cy) (f : Value) (d : D) (Q : Res → Prop) : Prop :=
  ∀ (F0 T F : Hp) (G : GD) (H : Hp) (r : Env2) (σ : L2.St) (v : V), Sta X.K F0 T F G H r σ → Vw X.K F H d v →
    ∃ rr : List V → Hp → VK → Prop, CallR X f rr ∧ rr [v] H (fun v' H' => ∃ x F', Ex F F' ∧ Sta X.K F0 T F' G H' r σ ∧ ResOk X.K T F' G H' r σ x v' ∧ Q x)
def CallW2 (X : Cy) (f : Value) (da db : D) (Q : Res → Prop) : Prop :=
  ∀ (F0 T F : Hp) (G : GD) (H : Hp) (r : Env2) (σ : L2.St) (va vb : V), Sta X.K F0 T F G H r σ → Vw X.K F H da va → Vw X.K F H db vb →
    ∃ rr : List V → Hp → VK → Prop, CallR X f rr ∧ rr [va, vb] H (fun v' H' => ∃ x F', Ex F F' ∧ Sta X.K F0 T F' G H' r σ ∧ ResOk X.K T F' G H' r σ x v' ∧ Q x)
def callU (X : Cy) (f : Value) : List V → Hp → VK → Prop := fun vs H Q => ∃ rr : List V → Hp → VK → Prop, CallR X f rr ∧ rr vs H Q
theorem callU_ok (f : Value) : CallR X f (callU X f) := fun pins s σ H xs us Q I rv ⟨rr, h1, h2⟩ => h1 pins s σ H xs us Q I rv h2
theorem CallR.post {f : Value} {rr : List V → Hp → VK → Prop} (h : CallR X f rr) (P : VK) : CallR X f (fun vs H Q' => rr vs H P ∧ ∀ v H', P v H' → Q' v H') := fun pins s σ H xs us Q' I rv ⟨q, m⟩ =>
  wpAny_mono (h pins s σ H xs us P I rv q) (fun _ _ ⟨v, H', I', rl, q⟩ => ⟨v, H', I', rl, m v H' q⟩) fun _ _ x => x
theorem one1 {f : Value} {Q : Res → Env2 → GD → Prop} {F0 T F H : Hp} {σ : L2.St} (lk : Lk X F0 T) (S : Sta X.K F0 T F G H r σ) (h : WE X e r G fun x r1 G1 => ∃ d, VwR r1 G1 x d ∧ CallW1 X f d fun z => Q z r1 G1) :
    tCB (callU X f) (tCons (Run X e) tNil) σ H (PostE X.K F0 T F σ Q) := by
  refine (h F0 T F H σ lk S).mono fun v H1 ⟨x, r1, G1, F1, e1, S1, k1, d, q1, q2⟩ => ?_
  obtain ⟨rr, h3, h4⟩ := q2 F0 T F1 G1 H1 r1 σ v S1 (S1.viewR k1 q1)
  exact ⟨_, CallR.post h3 _, h4, fun v H' ⟨z, F', m1, m2, m3, m4⟩ => ⟨z, r1, G1, F', e1.trans m1, m2, m3, m4⟩⟩
theorem we_b1 {x : Str} {id : String} {Q : Res → Env2 → GD → Prop} (hg : Gl X x) (hm : X.mg x = none) (hv : bootBuiltins x = some (.builtin id)) (h : WE X e r G fun x r1 G1 => ∃ d, VwR r1 G1 x d ∧ CallW1 X (.builtin id) d fun z => Q z r1 G1)
    (hn : x ≠ "__name__" := by decide) (hdb : (x == ("__debug__" : Str)) = false := by decide) (he : starEach [e] X.env = (false, eval e X.env) :: starEach [] X.env := by rfl) (hpl : (backTo pos (starEach [] X.env)).any (·.1) = false := by rfl) :
    WE X (.Call (.Name x p0) [e] [] pos) r G Q := fun F0 T F H σ lk S => Run.of (pe_callB (callU_ok _) hg hm hv (pa_cons peR pa_nil he) hn hdb he hpl) (one1 lk S h)
theorem we_t1 {x : Str} {id : String} {Q : Res → Env2 → GD → Prop} (hg : Gl X x) (hm : X.mg x = none) (hv : bootBuiltins x = some (.type id)) (h : WE X e r G fun x r1 G1 => ∃ d, VwR r1 G1 x d ∧ CallW1 X (.type id) d fun z => Q z r1 G1)
    (hn : x ≠ "__name__" := by decide) (hdb : (x == ("__debug__" : Str)) = false := by decide) (he : starEach [e] X.env = (false, eval e X.env) :: starEach [] X.env := by rfl) (hpl : (backTo pos (starEach [] X.env)).any (·.1) = false := by rfl) :
    WE X (.Call (.Name x p0) [e] [] pos) r G Q := fun F0 T F H σ lk S => Run.of (pe_callTy (callU_ok _) hg hm hv (pa_cons peR pa_nil he) hn hdb he hpl) (one1 lk S h)
theorem two2 {f : Value} {Q : Res → Env2 → GD → Prop} {F0 T F H : Hp} {σ : L2.St} (lk : Lk X F0 T) (S : Sta X.K F0 T F G H r σ) (h : WE X a r G fun x r1 G1 => WE X b r1 G1 fun y r2 G2 => ∃ da db, VwR r2 G2 x da ∧ VwR r2 G2 y db ∧ CallW2 X f da db fun z => Q z r2 G2) :
    tCB (callU X f) (tCons (Run X a) (tCons (Run X b) tNil)) σ H (PostE X.K F0 T F σ Q) := by
  refine (h F0 T F H σ lk S).mono fun va H1 ⟨x, r1, G1, F1, e1, S1, k1, h1⟩ => ?_
  obtain ⟨F1', e1', S1', hv⟩ := hold S1 k1
  refine (h1 F0 T F1' H1 σ lk S1').mono fun vb H2 ⟨y, r2, G2, F2, e2, S2, k2, da, db, q1, q2, q3⟩ => ?_
  obtain ⟨rr, h3, h4⟩ := q3 F0 T F2 G2 H2 r2 σ va vb S2 (hv F2 G2 H2 r2 da e2 S2 q1) (S2.viewR k2 q2)
  exact ⟨_, CallR.post h3 _, h4, fun v H' ⟨z, F', m1, m2, m3, m4⟩ => ⟨z, r2, G2, F', ((e1.trans e1').trans e2).trans m1, m2, m3, m4⟩⟩
theorem we_b2 {x : Str} {id : String} {Q : Res → Env2 → GD → Prop} (hg : Gl X x) (hm : X.mg x = none) (hv : bootBuiltins x = some (.builtin id)) (h : WE X a r G fun x r1 G1 => WE X b r1 G1 fun y r2 G2 => ∃ da db, VwR r2 G2 x da ∧ VwR r2 G2 y db ∧ CallW2 X (.builtin id) da db fun z => Q z r2 G2)
    (hn : x ≠ "__name__" := by decide) (hdb : (x == ("__debug__" : Str)) = false := by decide) (he : starEach [a, b] X.env = (false, eval a X.env) :: starEach [b] X.env := by rfl) (he2 : starEach [b] X.env = (false, eval b X.env) :: starEach [] X.env := by rfl) (hpl : (backTo pos (starEach [b] X.env)).any (·.1) = false := by rfl) :
    WE X (.Call (.Name x p0) [a, b] [] pos) r G Q := fun F0 T F H σ lk S => Run.of (pe_callB (callU_ok _) hg hm hv (pa_cons peR (pa_cons peR pa_nil he2) he) hn hdb he hpl) (two2 lk S h)
theorem c1_flat {f : Value} {d d' : D} {v' : V} (hd : ∀ K F, Rep K F d' v') (h : ∀ F H v, Ex F H → Vw X.K F H d v → ∃ rr, CallR X f rr ∧ ∀ P : VK, P v' H → rr [v] H P) (q : Q (.sh d')) : CallW1 X f d Q :=
  fun F0 T F G H r σ v S h1 => by
    obtain ⟨rr, k1, k2⟩ := h F H v S.bas.fh h1
    exact ⟨rr, k1, k2 _ ⟨.sh d', F, Ex.refl _, S, hd _ _, q⟩⟩
theorem c2_flat {f : Value} {da db d' : D} {v' : V} (hd : ∀ K F, Rep K F d' v') (h : ∀ F H va vb, Ex F H → Vw X.K F H da va → Vw X.K F H db vb → ∃ rr, CallR X f rr ∧ ∀ P : VK, P v' H → rr [va, vb] H P) (q : Q (.sh d')) : CallW2 X f da db Q :=
  fun F0 T F G H r σ va vb S h1 h2 => by
    obtain ⟨rr, k1, k2⟩ := h F H va vb S.bas.fh h1 h2
    exact ⟨rr, k1, k2 _ ⟨.sh d', F, Ex.refl _, S, hd _ _, q⟩⟩
theorem c_len {ds : List D} (q : Q (.sh (.int (ds.length : Nat)))) : CallW1 X (.builtin "len") (.lst ds) Q :=
  c1_flat (d' := .int (ds.length : Nat)) (v' := .int (ds.length : Nat)) (fun _ _ => rfl) (fun F H v ex h => by
    obtain ⟨p, vs, rfl, k1, k2⟩ := h.lst ex
    exact ⟨_, call_len_seq, fun P hp => ⟨p, vs, rfl, .inl (.inl k1), by rw [k2.length]; exact hp⟩⟩) q
theorem c_lenT {ds : List D} (q : Q (.sh (.int (ds.length : Nat)))) : CallW1 X (.builtin "len") (.tup ds) Q :=
  c1_flat (d' := .int (ds.length : Nat)) (v' := .int (ds.length : Nat)) (fun _ _ => rfl) (fun F H v ex h => by
    obtain ⟨p, vs, rfl, k1, k2⟩ := h.tup ex
    exact ⟨_, call_len_seq, fun P hp => ⟨p, vs, rfl, .inr k1, by rw [k2.length]; exact hp⟩⟩) q
theorem c_abs {i : Int} (q : Q (.sh (.int (if i < 0 then -i else i)))) : CallW1 X (.builtin "abs") (.int i) Q :=
  c1_flat (d' := .int (if i < 0 then -i else i)) (v' := .int (if i < 0 then -i else i)) (fun _ _ => rfl) (fun F H v ex h => ⟨_, call_abs, fun P hp => ⟨i, by rw [h.int], hp⟩⟩) q
theorem c_int {i : Int} (q : Q (.sh (.int i))) : CallW1 X (.type "int") (.int i) Q :=
  c1_flat (d' := .int i) (v' := .int i) (fun _ _ => rfl) (fun F H v ex h => ⟨_, call_int1, fun P hp => .inl ⟨i, by rw [h.int], hp⟩⟩) q
theorem c_intB {i : Bool} (q : Q (.sh (.int (if i then 1 else 0)))) : CallW1 X (.type "int") (.bl i) Q :=
  c1_flat (d' := .int (if i then 1 else 0)) (v' := .int (if i then 1 else 0)) (fun _ _ => rfl) (fun F H v ex h => ⟨_, call_int1, fun P hp => .inr ⟨i, by rw [h.bl], hp⟩⟩) q
theorem c_max2 {i j : Int} (hc : X.calm = true) (q : Q (.sh (.int (if j > i then j else i)))) : CallW2 X (.builtin "max") (.int i) (.int j) Q :=
  c2_flat (d' := .int (if j > i then j else i)) (v' := .int (if j > i then j else i)) (fun _ _ => rfl) (fun F H va vb ex h1 h2 => ⟨_, call_max2 hc, fun P hp => ⟨i, j, by rw [h1.int, h2.int], hp⟩⟩) q
theorem c_min2 {i j : Int} (hc : X.calm = true) (q : Q (.sh (.int (if j < i then j else i)))) : CallW2 X (.builtin "min") (.int i) (.int j) Q :=
  c2_flat (d' := .int (if j < i then j else i)) (v' := .int (if j < i then j else i)) (fun _ _ => rfl) (fun F H va vb ex h1 h2 => ⟨_, call_min2 hc, fun P hp => ⟨i, j, by rw [h1.int, h2.int], hp⟩⟩) q
theorem c_sum {ns : List Int} (hc : X.calm = true) (q : Q (.sh (.int ns.sum))) : CallW1 X (.builtin "sum") (.lst (ns.map D.int)) Q :=
  c1_flat (d' := .int ns.sum) (v' := .int ns.sum) (fun _ _ => rfl) (fun F H v ex h => by
    obtain ⟨p, vs, rfl, k1, k2⟩ := h.lst ex
    cases k2.ints
    exact ⟨_, cr_sum hc, fun P hp => ⟨p, ns, rfl, .inl k1, hp⟩⟩) q
/-- a new list, a new tuple as the result -/
theorem new_lst {K : PySem.W.Frag} {F0 T F : Hp} {G : GD} {H : Hp} {r : Env2} {σ : L2.St} (S : Sta K F0 T F G H r σ) {ds : List D} {vs : List V} (h : RepL K F ds vs) {p : Addr} (hp : H p = none) {Q : Res → Prop} (q : Q (.fr (.lst ds))) :
    ∃ x F', Ex F F' ∧ Sta K F0 T F' G (upd H p (.lst vs)) r σ ∧ ResOk K T F' G (upd H p (.lst vs)) r σ x (.ref p) ∧ Q x := by
  obtain ⟨f1, f2, f3⟩ := S.bas.freshF hp
  exact ⟨.fr (.lst ds), F, Ex.refl _, S.newH hp, ⟨p, rfl, ⟨vs, upd_same, h⟩, f1, f2, f3, S.freshR hp⟩, q⟩
theorem new_tup {K : PySem.W.Frag} {F0 T F : Hp} {G : GD} {H : Hp} {r : Env2} {σ : L2.St} (S : Sta K F0 T F G H r σ) {ds : List D} {vs : List V} (h : RepL K F ds vs) {p : Addr} (hp : H p = none) {Q : Res → Prop} (q : Q (.sh (.tup ds))) :
    ∃ x F', Ex F F' ∧ Sta K F0 T F' G (upd H p (.tup vs)) r σ ∧ ResOk K T F' G (upd H p (.tup vs)) r σ x (.ref p) ∧ Q x := by
  have ef : Ex F (upd F p (.tup vs)) := Ex.new (S.bas.freshF hp).1
  exact ⟨.sh (.tup ds), upd F p (.tup vs), ef, S.newF hp, ⟨p, vs, rfl, .inl (.inl upd_same), RepL.mono ef _ _ h⟩, q⟩
theorem c_list {ds : List D} (q : Q (.fr (.lst ds))) : CallW1 X (.type "list") (.lst ds) Q := fun F0 T F G H r σ v S h => by
  obtain ⟨p, vs, rfl, k1, k2⟩ := h.lst S.bas.fh
  exact ⟨_, call_list_of, p, vs, rfl, .inl (.inl k1), fun l hl => new_lst S k2 hl q⟩
theorem c_listT {ds : List D} (q : Q (.fr (.lst ds))) : CallW1 X (.type "list") (.tup ds) Q := fun F0 T F G H r σ v S h => by
  obtain ⟨p, vs, rfl, k1, k2⟩ := h.tup S.bas.fh
  exact ⟨_, call_list_of, p, vs, rfl, .inr k1, fun l hl => new_lst S k2 hl q⟩
theorem c_tuple {ds : List D} (q : Q (.sh (.tup ds))) : CallW1 X (.type "tuple") (.lst ds) Q := fun F0 T F G H r σ v S h => by
  obtain ⟨p, vs, rfl, k1, k2⟩ := h.lst S.bas.fh
  exact ⟨_, call_tuple_of, p, vs, rfl, .inl ⟨.inl k1, fun l hl => new_tup S k2 hl q⟩⟩
theorem c_tupleT {ds : List D} (q : Q (.sh (.tup ds))) : CallW1 X (.type "tuple") (.tup ds) Q := fun F0 T F G H r σ v S h => by
  have rp : Rep X.K F (.tup ds) v := by
    rcases h with h | ⟨_, _, h⟩
    · exact h
    · exact h.elim
  obtain ⟨p, vs, rfl, k1, k2⟩ := h.tup S.bas.fh
  exact ⟨_, call_tuple_of, p, vs, rfl, .inr ⟨k1, .sh (.tup ds), F, Ex.refl _, S, rp, q⟩⟩
theorem c_sorted {ns : List Int} (q : Q (.fr (.lst ((isort ns).map D.int)))) : CallW1 X (.builtin "sorted") (.lst (ns.map D.int)) Q := fun F0 T F G H r σ v S h => by
  obtain ⟨p, vs, rfl, k1, k2⟩ := h.lst S.bas.fh
  cases k2.ints
  refine ⟨_, cr_sortedI, p, ns, rfl, .inl k1, fun ns' l p1 p2 hl => ?_⟩
  cases isort_of p1 p2
  exact new_lst S (RepL.of_ints _) hl q

/-! ### in -/
theorem inV_ints (i : Int) : ∀ ns : List Int, inV (.int i) (ns.map V.int) = decide (i ∈ ns)
  | [] => by simp [inV]
  | n :: ns => by
    have ih := inV_ints i ns
    unfold inV at ih ⊢
    rw [List.map_cons, List.any_cons, ih]
    have e1 : eqV (.int n) (.int i) = decide (i = n) := by
      show (n == i) = decide (i = n)
      by_cases h : n = i
      · subst h; simp
      · have h2 : ¬ i = n := fun z => h z.symm
        simp [h, h2]
    rw [e1]
    by_cases h : i = n
    · subst h; simp
    · simp [h]
theorem flat_ints (ns : List Int) : (ns.map V.int).all flatV = true := by
  induction ns with
  | nil => rfl
  | cons n ns ih => rw [List.map_cons, List.all_cons, ih]; rfl
theorem opw_in {i : Int} {ns : List Int} (q : Q (.sh (.bl (decide (i ∈ ns))))) : OpW X (compareOp .In) (.int i) (.lst (ns.map D.int)) Q :=
  opw_flat (d := .bl (decide (i ∈ ns))) (v := .bl (decide (i ∈ ns))) (fun _ _ => rfl) (fun F H va vb ex h1 h2 => by
    obtain ⟨p, vs, rfl, k1, k2⟩ := h2.lst ex
    cases h1.int
    cases k2.ints
    exact ⟨_, op_in_seq, fun P hp => ⟨p, _, rfl, .inl (.inl k1), rfl, flat_ints ns, by rw [if_neg Bool.false_ne_true, inV_ints]; exact hp⟩⟩) q
theorem opw_inT {i : Int} {ns : List Int} (q : Q (.sh (.bl (decide (i ∈ ns))))) : OpW X (compareOp .In) (.int i) (.tup (ns.map D.int)) Q :=
  opw_flat (d := .bl (decide (i ∈ ns))) (v := .bl (decide (i ∈ ns))) (fun _ _ => rfl) (fun F H va vb ex h1 h2 => by
    obtain ⟨p, vs, rfl, k1, k2⟩ := h2.tup ex
    cases h1.int
    cases k2.ints
    exact ⟨_, op_in_seq, fun P hp => ⟨p, _, rfl, .inr k1, rfl, flat_ints ns, by rw [if_neg Bool.false_ne_true, inV_ints]; exact hp⟩⟩) q
theorem opw_nin {i : Int} {ns : List Int} (q : Q (.sh (.bl (!decide (i ∈ ns))))) : OpW X (compareOp .NotIn) (.int i) (.lst (ns.map D.int)) Q :=
  opw_flat (d := .bl (!decide (i ∈ ns))) (v := .bl (!decide (i ∈ ns))) (fun _ _ => rfl) (fun F H va vb ex h1 h2 => by
    obtain ⟨p, vs, rfl, k1, k2⟩ := h2.lst ex
    cases h1.int
    cases k2.ints
    exact ⟨_, op_notIn_seq, fun P hp => ⟨p, _, rfl, .inl (.inl k1), rfl, flat_ints ns, by rw [if_pos rfl, inV_ints]; exact hp⟩⟩) q
theorem opw_ninT {i : Int} {ns : List Int} (q : Q (.sh (.bl (!decide (i ∈ ns))))) : OpW X (compareOp .NotIn) (.int i) (.tup (ns.map D.int)) Q :=
  opw_flat (d := .bl (!decide (i ∈ ns))) (v := .bl (!decide (i ∈ ns))) (fun _ _ => rfl) (fun F H va vb ex h1 h2 => by
    obtain ⟨p, vs, rfl, k1, k2⟩ := h2.tup ex
    cases h1.int
    cases k2.ints
    exact ⟨_, op_notIn_seq, fun P hp => ⟨p, _, rfl, .inr k1, rfl, flat_ints ns, by rw [if_pos rfl, inV_ints]; exact hp⟩⟩) q

/-! ### slices -/
def cutD (xs : List D) (lo hi : Option Int) : List D := (xs.drop (HT.sIx xs.length 0 lo)).take (HT.sIx xs.length xs.length hi - HT.sIx xs.length 0 lo)
theorem cut_rep {K : PySem.W.Frag} {F : Hp} {ds : List D} {vs : List V} (h : RepL K F ds vs) (lo hi : Option Int) : RepL K F (cutD ds lo hi) (cutV vs lo hi) := by
  unfold cutD cutV
  rw [h.length]
  exact (h.drop _).take _
def RunO (X : Cy) (oe : Option Expr) : TO := fun σ H Q => ∀ (pins : List (Addr × Obj)) (s : Shared), Inv X pins σ H s → wpAny (model X.prog X.w) X.A (evalPart oe X.env) (fun u s' => ∃ o H', Inv X pins σ H' s' ∧ IsPart u o ∧ Q o H') X.xe s
theorem poR {oe : Option Expr} : PO X oe (RunO X oe) := ⟨fun pins s _ _ _ I h => h pins s I⟩
def WO (X : Cy) (oe : Option Expr) (r : Env2) (G : GD) (Q : Option Int → Env2 → GD → Prop) : Prop :=
  ∀ (F0 T F H : Hp) (σ : L2.St), Lk X F0 T → Sta X.K F0 T F G H r σ → RunO X oe σ H (fun o H' => ∃ r' G' F', Ex F F' ∧ Sta X.K F0 T F' G' H' r' σ ∧ Q o r' G')
theorem RunO.mono {oe : Option Expr} {σ : L2.St} {H : Hp} {Q Q' : Option Int → Hp → Prop} (h : RunO X oe σ H Q) (k : ∀ v H', Q v H' → Q' v H') : RunO X oe σ H Q' := fun pins s I =>
  wpAny_mono (h pins s I) (fun _ _ ⟨o, H', I', p, q⟩ => ⟨o, H', I', p, k _ H' q⟩) fun _ _ x => x
theorem wo_none {Q : Option Int → Env2 → GD → Prop} (q : Q none r G) : WO X none r G Q := fun F0 T F H σ lk S pins s I => po_none.run pins s σ H _ I ⟨r, G, F, Ex.refl _, S, q⟩
theorem wo_some {Q : Option Int → Env2 → GD → Prop} (h : WE X e r G fun x r1 G1 => ∃ i, vw r1 x = some (.int i) ∧ Q (some i) r1 G1) : WO X (some e) r G Q := fun F0 T F H σ lk S pins s I =>
  (po_some peR).run pins s σ H _ I ((h F0 T F H σ lk S).mono fun v H1 ⟨x, r1, G1, F1, e1, S1, k1, i, q1, q2⟩ => ⟨i, (S1.view k1 q1).int, r1, G1, F1, e1, S1, q2⟩)
def SlW (X : Cy) (d : D) (lo hi : Option Int) (Q : Res → Prop) : Prop :=
  ∀ (F0 T F : Hp) (G : GD) (H : Hp) (r : Env2) (σ : L2.St) (v : V), Sta X.K F0 T F G H r σ → Vw X.K F H d v →
    ∃ rr, L2.SlR X rr ∧ rr v lo hi H (fun v' H' => ∃ x F', Ex F F' ∧ Sta X.K F0 T F' G H' r σ ∧ ResOk X.K T F' G H' r σ x v' ∧ Q x)
def slU (X : Cy) : V → Option Int → Option Int → Hp → VK → Prop := fun x lo hi H Q => ∃ rr, L2.SlR X rr ∧ rr x lo hi H Q
theorem SlR.post {rr : V → Option Int → Option Int → Hp → VK → Prop} (h : L2.SlR X rr) (P : VK) : L2.SlR X (fun x lo hi H Q' => rr x lo hi H P ∧ ∀ v H', P v H' → Q' v H') := fun pins s σ H x v vl vu lo hi sl Q' I rx hs pl pu ⟨q, m⟩ => by
  obtain ⟨T, id, h1, h2, h3⟩ := h pins s σ H x v vl vu lo hi sl P I rx hs pl pu q
  exact ⟨T, id, h1, h2, wpAny_mono h3 (fun _ _ ⟨v, H', I', rl, q⟩ => ⟨v, H', I', rl, m v H' q⟩) fun _ _ x => x⟩
theorem slU_ok : L2.SlR X (slU X) := fun pins s σ H x v vl vu lo hi sl Q I rx hs pl pu ⟨rr, h1, h2⟩ => h1 pins s σ H x v vl vu lo hi sl Q I rx hs pl pu h2
theorem we_slice {lo hi : Option Expr} {p2 : Pos} {Q : Res → Env2 → GD → Prop} (h : WE X a r G fun x r1 G1 => WO X lo r1 G1 fun l r2 G2 => WO X hi r2 G2 fun u r3 G3 => ∃ d, VwR r3 G3 x d ∧ SlW X d l u fun z => Q z r3 G3) :
    WE X (.Subscript a (.Slice lo hi none p2) pos) r G Q := fun F0 T F H σ lk S => Run.of (pe_slice slU_ok peR poR poR) (by
  refine (h F0 T F H σ lk S).mono fun va H1 ⟨x, r1, G1, F1, e1, S1, k1, h1⟩ => ?_
  obtain ⟨F1', e1', S1', hv⟩ := hold S1 k1
  refine (h1 F0 T F1' H1 σ lk S1').mono fun l H2 ⟨r2, G2, F2, e2, S2, h2⟩ => ?_
  refine (h2 F0 T F2 H2 σ lk S2).mono fun u H3 ⟨r3, G3, F3, e3, S3, d, q1, q2⟩ => ?_
  obtain ⟨rr, h3, h4⟩ := q2 F0 T F3 G3 H3 r3 σ va S3 (hv F3 G3 H3 r3 d (e2.trans e3) S3 q1)
  exact ⟨_, SlR.post h3 _, h4, fun v H' ⟨z, F', m1, m2, m3, m4⟩ => ⟨z, r3, G3, F', (((e1.trans e1').trans e2).trans e3).trans m1, m2, m3, m4⟩⟩)
theorem slw_lst {ds : List D} {lo hi : Option Int} (q : Q (.fr (.lst (cutD ds lo hi)))) : SlW X (.lst ds) lo hi Q := fun F0 T F G H r σ v S h => by
  obtain ⟨p, vs, rfl, k1, k2⟩ := h.lst S.bas.fh
  exact ⟨_, sl_list, p, vs, rfl, .inl k1, fun l hl => new_lst S (cut_rep k2 lo hi) hl q⟩
theorem slw_tup {ds : List D} {lo hi : Option Int} (q : Q (.sh (.tup (cutD ds lo hi)))) : SlW X (.tup ds) lo hi Q := fun F0 T F G H r σ v S h => by
  have rp : Rep X.K F (.tup ds) v := by
    rcases h with h | ⟨_, _, h⟩
    · exact h
    · exact h.elim
  obtain ⟨p, vs, rfl, k1, k2⟩ := h.tup S.bas.fh
  refine ⟨_, sl_tupA, p, vs, rfl, k1, fun hw => ?_, fun _ l hl => new_tup S (cut_rep k2 lo hi) hl q⟩
  have ec : cutD ds lo hi = ds := by
    unfold cutD
    rw [← k2.length, hw.1, hw.2]
    simp [k2.length]
  rw [ec] at q
  exact ⟨.sh (.tup ds), F, Ex.refl _, S, rp, q⟩
end


/-! ### the base of a state moved -/
theorem Bas.base {F0 T F : Hp} {G : GD} {H : Hp} {K : PySem.W.Frag} (B : Bas K F0 T F G H) : Bas K F T F G H := ⟨Ex.refl _, fun _ _ h => .inl h, B.fh, B.gh, B.fg, B.gt, B.tk⟩
theorem Bas.back {F0 T F1 : Hp} {G1 : GD} {H1 F : Hp} {G : GD} {H : Hp} {K : PySem.W.Frag} (B : Bas K F0 T F1 G1 H1) (C : Bas K F1 T F G H) : Bas K F0 T F G H :=
  ⟨B.ff.trans C.ff, fun a o h => (C.ft a o h).elim (fun z => B.ft a o z) .inr, C.fh, C.gh, C.fg, C.gt, C.tk⟩
theorem Sta.base {K : PySem.W.Frag} {F0 T F : Hp} {G : GD} {H : Hp} {r : Env2} {σ : L2.St} (S : Sta K F0 T F G H r σ) : Sta K F T F G H r σ := ⟨S.bas.base, S.len, S.sl, S.ap⟩
theorem Sta.back {K : PySem.W.Frag} {F0 T F1 : Hp} {G1 : GD} {H1 F : Hp} {G : GD} {H : Hp} {r : Env2} {σ : L2.St} (B : Bas K F0 T F1 G1 H1) (S : Sta K F1 T F G H r σ) : Sta K F0 T F G H r σ := ⟨B.back S.bas, S.len, S.sl, S.ap⟩
theorem at_back {K : PySem.W.Frag} {F0 T F1 : Hp} {G1 : GD} {H1 : Hp} (B : Bas K F0 T F1 G1 H1) {Q : Env2 → GD → Prop} {σ : L2.St} {H : Hp} (h : PostN K F1 T Q σ H) : PostN K F0 T Q σ H := by
  obtain ⟨r, G, F, S, q⟩ := h
  exact ⟨r, G, F, S.back B, q⟩
theorem rt_back {K : PySem.W.Frag} {F0 T F1 : Hp} {G1 : GD} {H1 : Hp} (B : Bas K F0 T F1 G1 H1) {Q : Res → GD → Prop} {v : V} {H : Hp} (h : PostR K F1 T Q v H) : PostR K F0 T Q v H := by
  obtain ⟨x, G, F, C, k, q⟩ := h
  exact ⟨x, G, F, B.back C, k, q⟩

/-! ### targets -/
def RunG (X : Cx) (tg : Expr) : TG := fun v σ H Q => ∀ (pins : List (Addr × Obj)) (s : Shared) (u : Value), Inv X pins σ H s → RelV v u → wpAny (model X.prog X.w) X.A (assign tg X.env u) (fun _ s' => ∃ σ' H', Inv X pins σ' H' s' ∧ Q σ' H') X.xe s
theorem pgR {X : Cx} {tg : Expr} : PG X tg (RunG X tg) := ⟨fun pins s σ H v u Q I rv h => h pins s u I rv⟩
/-- frozen data goes to a target; σ' differs from σ in the slots is alone -/
def WG (X : Cy) (tg : Expr) (d : D) (r : Env2) (G : GD) (is : List Nat) (Q : Env2 → GD → Prop) : Prop :=
  ∀ (F0 T F H : Hp) (σ : L2.St) (v : V), Lk X F0 T → Sta X.K F0 T F G H r σ → Rep X.K F d v → RunG X tg v σ H (fun σ' H' => wipe σ' is = wipe σ is ∧ ∃ r' G' F', Ex F F' ∧ Sta X.K F0 T F' G' H' r' σ' ∧ Q r' G')
theorem wipe_set {σ : L2.St} {i : Nat} {x : Option V} : ∀ {is : List Nat}, i ∈ is → wipe (σ.set i x) is = wipe σ is
  | [], h => by simp at h
  | j :: is, h => by
    unfold wipe
    by_cases hm : i ∈ is
    · rw [wipe_set hm]
    · have hj : i = j := by
        rcases List.mem_cons.mp h with z | z
        · exact z
        · exact absurd z hm
      subst hj
      have aux : ∀ (is : List Nat), i ∉ is → wipe (σ.set i x) is = (wipe σ is).set i x := by
        intro is
        induction is with
        | nil => intro _; rfl
        | cons k is ih =>
          intro hk
          unfold wipe
          rw [ih (fun z => hk (List.mem_cons_of_mem _ z)), List.set_comm _ _ (fun z => hk (by rw [z]; exact List.mem_cons_self))]
      rw [aux is hm, List.set_set]
section
variable {X : Cy} {e a b c o tg : Expr} {es : List Expr} {st : Stmt} {sts rest body orelse : List Stmt} {r : Env2} {G : GD} {pos p0 : Pos} {D0 : EndsD}
theorem wg_name (i : Nat) {x : Str} {d : D} {is : List Nat} {Q : Env2 → GD → Prop} (hN : X.N.Nodup) (hi : X.N[i]? = some x) (hx : Loc X.env.scope x) (hm : i ∈ is) (hl : i < r.length) (q : Q (r.set i (.sh d)) G) (hf : X.fn x = true ∨ X.env.scope.names.lookup x = some .local := by first | exact .inl rfl | exact .inr rfl | assumption) :
    WG X (.Name x pos) d r G is Q := fun F0 T F H σ v lk S rp pins s u I rv => by
  refine (pg_name hN hi hx hf).run pins s σ H v u _ I rv ⟨wipe_set hm, r.set i (.sh d), G, F, Ex.refl _, S.set hl ⟨v, rfl, rp⟩ (fun d' z => nomatch z), q⟩
theorem fold_wipe : ∀ (ixs : List Nat) (vs : List V) (σ : L2.St) {is : List Nat}, (∀ i ∈ ixs, i ∈ is) → wipe ((ixs.zip vs).foldl (fun s p => s.set p.1 (some p.2)) σ) is = wipe σ is
  | [], _, _, _, _ => by simp
  | _ :: _, [], _, _, _ => by simp
  | i :: ixs, v :: vs, σ, is, h => by
    rw [List.zip_cons_cons, List.foldl_cons, fold_wipe ixs vs _ fun j hj => h j (List.mem_cons_of_mem _ hj)]
    exact wipe_set (h i List.mem_cons_self)
theorem wg_tup {ts : List Expr} {k : Nat} (ixs : List Nat) {ds : List D} {is : List Nat} {Q : Env2 → GD → Prop} (hc : X.calm = true) (hp : All2 (fun t i => PG X t (gName i)) ts ixs) (hst : ∀ t ∈ ts, ∀ us, (assignEach (t :: us) X.env).map (·.2) = assign t X.env :: (assignEach us X.env).map (·.2))
    (hm : ∀ i ∈ ixs, i ∈ is) (hl : ds.length = ixs.length) (hr : ∀ i ∈ ixs, i < r.length) (q : Q (setAll r ixs ds) G) (hn : (assignEach ts X.env).length = ixs.length := by rfl) (hf : (assignEach ts X.env).findIdx? (·.1) = none := by rfl) :
    WG X (.Tuple ts k pos) (.tup ds) r G is Q := fun F0 T F H σ v lk S rp pins s u I rv => by
  obtain ⟨a, vs, rfl, z1, z2⟩ := rp
  refine (pg_tup hc (pgs_run hp hst) hn hf).run pins s σ H _ u _ I rv ⟨a, vs, rfl, S.bas.fh.sqT z1, by rw [z2.length]; exact hl, by rw [z2.length]; exact hl, fold_wipe ixs vs σ hm, _, G, F, Ex.refl _, S.setAll ixs ds vs z2 hl.symm hr, q⟩

/-! ### loops -/
/-- a turn of a loop: the item goes to the target, the body runs -/
theorem turn1 {d : D} {v : V} {is : List Nat} {F0 T Fa : Hp} {Ga : GD} {Ha F H : Hp} {σ : L2.St} {I : Env2 → GD → Prop} (lk : Lk X F0 T) (B : Bas X.K F0 T Fa Ga Ha) (S : Sta X.K Fa T F G H r σ) (rp : Rep X.K F d v) (h : WG X tg d r G is fun r1 G1 => WB X body r1 G1 { D0 with nx := I, ct := I, bk := D0.nx }) {P : L2.St → Hp → Prop}
    (hP : ∀ σ' H', PostN X.K Fa T I σ' H' → P σ' H') : RunG X tg v σ H fun σ2 H2 => RunB X body { D0.at X.K F0 T with nx := P, ct := P, bk := (D0.at X.K F0 T).nx } σ2 H2 := fun pins s u J rv => by
  refine wpAny_mono (h Fa T F H σ v (lk.base B) S rp pins s u J rv) (fun _ s' ⟨σ', H', J', _, r', G', F', e', S', q⟩ => ⟨σ', H', J', ?_⟩) fun _ _ x => x
  exact (q Fa T F' H' σ' (lk.base B) S').mono hP (fun v H z => rt_back B z) (fun σ H z => at_back B z) hP
/-! ### what is walked -/
/-- J yields the data ds, while what is frozen at Fa stays -/
def ItD (K : PySem.W.Frag) (J : It) (Fa : Hp) (ds : List D) : Prop := ∀ (F H : Hp), Ex Fa F → Ex F H → J.stop ds.length H ∧ ∀ (i : Nat) (d : D), ds[i]? = some d → J.go i H ∧ ∀ x H', J.yld i H x H' →
  (H' = H ∧ Rep K F d x) ∨ ∃ p o, H p = none ∧ H' = upd H p o ∧ x = .ref p ∧ Rep K (upd F p o) d (.ref p)
theorem ItD.mono {K : PySem.W.Frag} {J : It} {F F' : Hp} {ds : List D} (e : Ex F F') (h : ItD K J F ds) : ItD K J F' ds := fun F2 H e1 e2 => h F2 H (e.trans e1) e2
/-- a yielded item, over a state -/
theorem ItD.item {K : PySem.W.Frag} {J : It} {Fa F0 T F : Hp} {G : GD} {H H' : Hp} {r : Env2} {σ : L2.St} {ds : List D} {i : Nat} {d : D} {x : V} (h : ItD K J Fa ds) (ea : Ex Fa F) (S : Sta K F0 T F G H r σ) (hi : ds[i]? = some d) (y : J.yld i H x H') :
    ∃ F', Ex F F' ∧ Sta K F0 T F' G H' r σ ∧ Rep K F' d x := by
  obtain ⟨_, h2⟩ := h F H ea S.bas.fh
  rcases (h2 i d hi).2 x H' y with ⟨rfl, rp⟩ | ⟨p, o, hp, rfl, rfl, rp⟩
  · exact ⟨F, Ex.refl _, S, rp⟩
  · exact ⟨upd F p o, Ex.new (S.bas.freshF hp).1, S.newF hp, rp⟩
def RunI (X : Cx) (tg e : Expr) : TI := fun σ H R => ∀ (pins : List (Addr × Obj)) (s : Shared), Inv X pins σ H s → wpAny (model X.prog X.w) X.A (eval e X.env) (fun v s1 => wpAny (model X.prog X.w) X.A (pyIter v) (PIE X pins σ tg R) X.xe s1) X.xe s
theorem piR {X : Cx} {tg e : Expr} : PI X tg e (RunI X tg e) := ⟨fun pins s _ _ _ I h => h pins s I⟩
theorem RunI.of {X : Cx} {tg e : Expr} {wi : TI} {σ : L2.St} {H : Hp} {R : It → Hp → Prop} (h : PI X tg e wi) (q : wi σ H R) : RunI X tg e σ H R := fun pins s I => h.run pins s σ H R I q
theorem RunI.mono {X : Cx} {tg e : Expr} {σ : L2.St} {H : Hp} {R R' : It → Hp → Prop} (h : RunI X tg e σ H R) (k : ∀ J H', R J H' → R' J H') : RunI X tg e σ H R' := fun pins s I =>
  wpAny_mono (h pins s I) (fun _ _ q => wpAny_mono q (fun _ _ ⟨it, fp, tn, J, H', a, b, c, d, e, f⟩ => ⟨it, fp, tn, J, H', a, b, c, d, e, k _ _ f⟩) fun _ _ x => x) fun _ _ x => x
/-- the iterable e yields data -/
def WI (X : Cy) (tg e : Expr) (r : Env2) (G : GD) (Q : List D → Env2 → GD → Prop) : Prop :=
  ∀ (F0 T F H : Hp) (σ : L2.St), Lk X F0 T → Sta X.K F0 T F G H r σ → RunI X tg e σ H fun J H' => ∃ ds r' G' F', Ex F F' ∧ Sta X.K F0 T F' G' H' r' σ ∧ ItD X.K J F' ds ∧ Q ds r' G'
theorem WI.mono {Q Q' : List D → Env2 → GD → Prop} (h : WI X tg e r G Q) (k : ∀ x r' G', Q x r' G' → Q' x r' G') : WI X tg e r G Q' := fun F0 T F H σ lk S =>
  (h F0 T F H σ lk S).mono fun _ _ ⟨x, r', G', F', a, b, c, q⟩ => ⟨x, r', G', F', a, b, c, k _ _ _ q⟩
theorem wi_lst {Q : List D → Env2 → GD → Prop} (h : WE X e r G fun x r1 G1 => ∃ ds r2, fz r1 x = some (.lst ds, r2) ∧ (ds.length ≤ LIM → Q ds r2 G1)) : WI X tg e r G Q := fun F0 T F H σ lk S =>
  RunI.of (pi_list peR) ((h F0 T F H σ lk S).bl.mono fun v H1 ⟨bl, x, r1, G1, F1, e1, S1, k1, ds, r2, q1, q2⟩ => by
    obtain ⟨Fa, e2, Sa, rp⟩ := S1.fz k1 q1
    obtain ⟨a, vs, rfl, z1, z2⟩ := rp
    have hlim : ds.length ≤ LIM := by rw [← z2.length]; exact bl.1 a vs (.inl (Sa.bas.fh.rd z1))
    refine ⟨a, rfl, ⟨vs, .inl (Sa.bas.fh.rd z1)⟩, ds, r2, G1, Fa, e1.trans e2, Sa, fun F H ea eh => ⟨⟨vs, .inl (eh.rd (ea.rd z1)), by rw [z2.length]; exact Nat.le_refl _⟩, fun i d hi => ?_⟩, q2 hlim⟩
    obtain ⟨v, h1, h2⟩ := z2.get hi
    exact ⟨⟨vs, v, .inl (eh.rd (ea.rd z1)), h1⟩, fun x H' ⟨y1, y2⟩ => .inl ⟨y1, by
      have := y2 vs (.inl (eh.rd (ea.rd z1)))
      rw [h1] at this; cases this
      exact Rep.mono ea _ _ h2⟩⟩)
theorem wi_tup {Q : List D → Env2 → GD → Prop} (h : WE X e r G fun x r1 G1 => ∃ ds r2, fz r1 x = some (.tup ds, r2) ∧ (ds.length ≤ LIM → Q ds r2 G1)) : WI X tg e r G Q := fun F0 T F H σ lk S =>
  RunI.of (pi_tup peR) ((h F0 T F H σ lk S).bl.mono fun v H1 ⟨bl, x, r1, G1, F1, e1, S1, k1, ds, r2, q1, q2⟩ => by
    obtain ⟨Fa, e2, Sa, rp⟩ := S1.fz k1 q1
    obtain ⟨a, vs, rfl, z1, z2⟩ := rp
    have hlim : ds.length ≤ LIM := by rw [← z2.length]; exact bl.2.1 a vs (Sa.bas.fh.sqT z1)
    refine ⟨a, rfl, ⟨vs, Sa.bas.fh.sqT z1⟩, ds, r2, G1, Fa, e1.trans e2, Sa, fun F H ea eh => ⟨⟨vs, eh.sqT (ea.sqT z1), by rw [z2.length]; exact Nat.le_refl _⟩, fun i d hi => ?_⟩, q2 hlim⟩
    obtain ⟨v, h1, h2⟩ := z2.get hi
    exact ⟨⟨vs, v, eh.sqT (ea.sqT z1), h1⟩, fun x H' ⟨y1, y2⟩ => .inl ⟨y1, by
      have := y2 vs (eh.sqT (ea.sqT z1))
      rw [h1] at this; cases this
      exact Rep.mono ea _ _ h2⟩⟩)
def rgI (a b : Int) : List Int := (List.range (b - a).toNat).map fun i => a + (i : Nat)
theorem rgI_length (a b : Int) : (rgI a b).length = (b - a).toNat := by unfold rgI; rw [List.length_map, List.length_range]
theorem rgI_get {a b : Int} {i : Nat} {x : Int} (h : (rgI a b)[i]? = some x) : i < (b - a).toNat ∧ x = a + (i : Nat) := by
  unfold rgI at h
  rw [List.getElem?_map] at h
  cases q : (List.range (b - a).toNat)[i]? with
  | none => rw [q] at h; cases h
  | some j =>
    rw [q] at h
    obtain ⟨z1, z2⟩ := List.getElem?_eq_some_iff.mp q
    rw [List.length_range] at z1
    rw [List.getElem_range] at z2
    subst z2
    exact ⟨z1, by simpa using h.symm⟩
theorem itd_range {K : PySem.W.Frag} {Fa : Hp} {lo hi : Int} {n : Nat} (hn : n = (hi - lo).toNat) : ItD K (Itr lo n) Fa ((rgI lo hi).map D.int) := fun F H ea eh =>
  ⟨by rw [List.length_map, rgI_length, ← hn]; exact Nat.le_refl _, fun i d hd => by
    rw [List.getElem?_map] at hd
    cases q : (rgI lo hi)[i]? with
    | none => rw [q] at hd; cases hd
    | some x =>
      rw [q] at hd
      obtain ⟨z1, rfl⟩ := rgI_get q
      cases hd
      exact ⟨by rw [hn]; exact z1, fun y H' ⟨y1, y2⟩ => .inl ⟨y1, y2⟩⟩⟩
abbrev RG (n : Int) : Prop := -(2 ^ 62) ≤ n ∧ n < 2 ^ 62
theorem wi_rng1 {Q : List D → Env2 → GD → Prop} (hg : Gl X "range") (hm : X.mg "range" = none)
    (h : WE X a r G fun x r1 G1 => ∃ n, vw r1 x = some (.int n) ∧ RG n ∧ Q ((rgI 0 n).map D.int) r1 G1) (hst : starEach [a] X.env = [(false, eval a X.env)] := by rfl) : WI X tg (.Call (.Name "range" p0) [a] [] pos) r G Q := fun F0 T F H σ lk S =>
  RunI.of (pi_range1 hg hm (pa_cons peR pa_nil hst) hst) ((h F0 T F H σ lk S).mono fun v H1 ⟨x, r1, G1, F1, e1, S1, k1, n, q1, hn, q2⟩ =>
    ⟨n, by rw [(S1.view k1 q1).int], hn.1, hn.2, _, r1, G1, F1, e1, S1, itd_range (by rw [Int.sub_zero]), q2⟩)
theorem wi_rng2 {Q : List D → Env2 → GD → Prop} (hg : Gl X "range") (hm : X.mg "range" = none)
    (h : WE X a r G fun x r1 G1 => WE X b r1 G1 fun y r2 G2 => ∃ lo n, vw r2 x = some (.int lo) ∧ vw r2 y = some (.int n) ∧ RG lo ∧ RG n ∧ Q ((rgI lo n).map D.int) r2 G2)
    (hst : starEach [a, b] X.env = [(false, eval a X.env), (false, eval b X.env)] := by rfl) (hst2 : starEach [b] X.env = [(false, eval b X.env)] := by rfl) : WI X tg (.Call (.Name "range" p0) [a, b] [] pos) r G Q := fun F0 T F H σ lk S =>
  RunI.of (pi_range2 hg hm (pa_cons peR (pa_cons peR pa_nil (by rw [hst2]; rfl)) (by rw [hst, hst2])) hst hst2) ((h F0 T F H σ lk S).mono fun v H1 ⟨x, r1, G1, F1, e1, S1, k1, h1⟩ => by
    obtain ⟨F1', e1', S1', hv⟩ := hold S1 k1
    refine (h1 F0 T F1' H1 σ lk S1').mono fun v2 H2 ⟨y, r2, G2, F2, e2, S2, k2, lo, n, q1, q2, hl, hn, q3⟩ => ?_
    exact ⟨lo, n, by rw [(hv F2 G2 H2 r2 _ e2 S2 (.inl q1)).int, (S2.view k2 q2).int], ⟨hl.1, hl.2, hn.1, hn.2⟩, _, r2, G2, F2, (e1.trans e1').trans e2, S2, itd_range rfl, q3⟩)
/-! ### loops -/
theorem ws_for {is : List Nat} (hp : PassesOwn (model X.prog X.w) X.A X.env X.xe) (hc : X.calm = true)
    (h : WI X tg e r G fun ds r2 G1 => ∃ I : Nat → Env2 → GD → Prop, I 0 r2 G1 ∧ (∀ (k : Nat) (d : D) (r3 : Env2) (G3 : GD), ds[k]? = some d → I k r3 G3 → WG X tg d r3 G3 is fun r4 G4 => WB X body r4 G4 { D0 with nx := I (k + 1), ct := I (k + 1), bk := D0.nx }) ∧
      ∀ r3 G3, I ds.length r3 G3 → D0.nx r3 G3) (hs : ∀ x, foldedSetIterable e X.env x = pure x := by intro _; rfl) : WS X (.For tg e body [] pos) r G D0 := fun F0 T F H σ lk S =>
  RunS.of (ps_for hp hc piR pgR pbR hs) ((h F0 T F H σ lk S).mono fun J H1 ⟨ds, r2, G1, Fa, e1, Sa, hJ, I, i0, it, ie⟩ => by
    refine ⟨fun i m σ' H' => m = ds.length - i ∧ i ≤ ds.length ∧ PostN X.K Fa T (I i) σ' H', ⟨ds.length, by simp, Nat.zero_le _, r2, G1, Fa, Sa.base, i0⟩, ?_⟩
    rintro i m σ' H' ⟨rfl, hi, r', G', F', S', q'⟩
    obtain ⟨j1, j2⟩ := hJ F' H' S'.bas.ff S'.bas.fh
    by_cases hlt : i < ds.length
    · obtain ⟨j3, _⟩ := j2 i ds[i] (List.getElem?_eq_getElem hlt)
      refine .inr ⟨j3, fun σ' H' => PostN X.K Fa T (I (i + 1)) σ' H', fun σ2 H2 p2 => ⟨ds.length - (i + 1), by omega, rfl, hlt, p2⟩, fun x H2 y => ?_⟩
      obtain ⟨F2, ef, S2, rp⟩ := hJ.item S'.bas.ff S' (List.getElem?_eq_getElem hlt) y
      exact turn1 lk Sa.bas S2 rp (it i ds[i] r' G' (List.getElem?_eq_getElem hlt) q') fun _ _ z => z
    · have e : i = ds.length := by omega
      subst e
      exact .inl ⟨j1, at_back Sa.bas ⟨r', G', F', S', ie r' G' q'⟩⟩)
/-- while, by a word and a measure -/
theorem ws_while (hp : PassesOwn (model X.prog X.w) X.A X.env X.xe) (I : Nat → Env2 → GD → Prop) (m0 : Nat) (i0 : I m0 r G)
    (h : ∀ (m : Nat) (r1 : Env2) (G1 : GD), I m r1 G1 → WT X c r1 G1 fun d r2 G2 => (d = true → WB X body r2 G2 { D0 with nx := fun r3 G3 => ∃ m', m' < m ∧ I m' r3 G3, ct := fun r3 G3 => ∃ m', m' < m ∧ I m' r3 G3, bk := D0.nx }) ∧ (d = false → D0.nx r2 G2)) : WS X (.While c body [] pos) r G D0 := fun F0 T F H σ lk S =>
  RunS.of (ps_while hp ptR pbR) ⟨fun m σ' H' => PostN X.K F0 T (I m) σ' H', ⟨m0, r, G, F, S, i0⟩, fun m σ' H' ⟨r', G', F', S', q'⟩ => by
    refine (h m r' G' q' F0 T F' H' σ' lk S').mono fun d H2 ⟨r2, G2, F2, e2, S2, q1, q2⟩ => ?_
    cases d with
    | true =>
      rw [if_pos rfl]
      exact ⟨PostN X.K F0 T fun r3 G3 => ∃ m', m' < m ∧ I m' r3 G3, fun σ3 H3 ⟨r3, G3, F3, S3, m', hm, q3⟩ => ⟨m', hm, r3, G3, F3, S3, q3⟩, q1 rfl F0 T F2 H2 σ' lk S2⟩
    | false =>
      rw [if_neg Bool.false_ne_true]
      exact ⟨r2, G2, F2, S2, q2 rfl⟩⟩

/-! ### calls of defs -/
abbrev FSp := List D → GD → (Res → GD → Prop) → (Exn → GD → Prop) → Prop
/-- what others hold at a call -/
def Tof (G : GD) (H : Hp) : Hp := fun a => match G a with
  | none => H a
  | some _ => none
theorem Tof_none {G : GD} {H : Hp} {a : Addr} (h : G a = none) : Tof G H a = H a := by unfold Tof; rw [h]
theorem Tof_some {G : GD} {H : Hp} {a : Addr} {o : D} (h : G a = some o) : Tof G H a = none := by unfold Tof; rw [h]
/-- a def's promise over data -/
def spD (K : PySem.W.Frag) (f : FSp) : Sp := fun vs H Q E => ∃ (F : Hp) (G : GD) (ds : List D) (post : Res → GD → Prop) (px : Exn → GD → Prop), Ex F H ∧ (∀ a d, G a = some d → Own K F H a d) ∧ (∀ a o, G a = some o → F a = none) ∧ RepL K F ds vs ∧ f ds G post px ∧
  (∀ x G' v H' F', post x G' → Bas K F (Tof G H) F' G' H' → RtOk K (Tof G H) F' G' H' x v → Q v H') ∧ ∀ x cls d G' H' F', px x G' → Bas K F (Tof G H) F' G' H' → ExOk K F' cls d x → E cls d H'
/-- behind a call the caller's state stands -/
theorem Sta.after {K : PySem.W.Frag} {F0 T F : Hp} {G : GD} {H F' : Hp} {G' : GD} {H' : Hp} {r : Env2} {σ : L2.St} (S : Sta K F0 T F G H r σ) (B : Bas K F (Tof G H) F' G' H') : Sta K F0 T F' G' H' r σ := by
  have tt : ∀ a o, T a = some o → Tof G H a = some o := fun a o h => by
    have hg : G a = none := by
      cases e : G a with
      | none => rfl
      | some u => rw [S.bas.gt a u e] at h; cases h
    rw [Tof_none hg]
    exact S.bas.tk a o h
  refine S.grow ⟨S.bas.ff.trans B.ff, fun a o h => ?_, B.fh, B.gh, B.fg, fun a o h => ?_, fun a o h => B.tk a o (tt a o h)⟩ B.ff fun p h1 h2 h3 ⟨u, hu⟩ => ?_
  · rcases B.ft a o h with z | z
    · exact S.bas.ft a o z
    · cases e : T a with
      | none => exact .inr rfl
      | some u => rw [tt a u e] at z; cases z
  · cases e : T a with
    | none => rfl
    | some u =>
      have z := B.gt a o h
      rw [tt a u e] at z; cases z
  · have hT : Tof G H p = some u := by rw [Tof_none h2]; exact hu
    refine ⟨fun o ho => by rw [hu] at ho; cases ho; exact B.tk p u hT, ?_, ?_, h3⟩
    · cases e : F' p with
      | none => rfl
      | some w =>
        rcases B.ft p w e with z | z
        · rw [h1] at z; cases z
        · rw [hT] at z; cases z
    · cases e : G' p with
      | none => rfl
      | some w => have z := B.gt p w e; rw [hT] at z; cases z
theorem ResOk.after {K : PySem.W.Frag} {F0 T F : Hp} {G : GD} {H F' : Hp} {G' : GD} {H' : Hp} {r : Env2} {σ : L2.St} {x : Res} {v : V} (S : Sta K F0 T F G H r σ) (B : Bas K F (Tof G H) F' G' H') (h : RtOk K (Tof G H) F' G' H' x v) : ResOk K T F' G' H' r σ x v := by
  cases x with
  | sh d => exact h
  | pk i => exact h.elim
  | fr d =>
    obtain ⟨p, rfl, h2, h3, h4, h5⟩ := h
    refine ⟨p, rfl, h2, h3, h4, ?_, fun i e he z => ?_⟩
    · cases e : T p with
      | none => rfl
      | some u =>
        have hg : G p = none := by
          cases eg : G p with
          | none => rfl
          | some w => rw [S.bas.gt p w eg] at e; cases e
        rw [Tof_none hg, S.bas.tk p u e] at h5; cases h5
    · obtain ⟨q, z1, z2, z3, z4, z5⟩ := S.ownS he
      rw [z] at z1; cases z1
      obtain ⟨o, ho⟩ := z2.there
      rw [Tof_none z4, ho] at h5; cases h5
/-- a promise met from a state -/
theorem spD_of {F0 T F F1 H : Hp} {σ : L2.St} {sp : FSp} {ds : List D} {vs : List V} {Q : Res → Env2 → GD → Prop} (lk : Lk X F0 T) (S : Sta X.K F0 T F1 G H r σ) (e1 : Ex F F1) (ha : RepL X.K F1 ds vs) (h : sp ds G (fun z G2 => Q z r G2) (fun x G2 => X.QX x r G2)) : spD X.K sp vs H (PostE X.K F0 T F σ Q) (L2.WE X.WX σ) :=
  ⟨F1, G, ds, _, _, S.bas.fh, S.bas.gh, S.bas.fg, ha, h, fun x G' v H' F' hp B rt => ⟨x, r, G', F', e1.trans B.ff, S.after B, ResOk.after S B rt, hp⟩, fun x cls d G' H' F' hp B ex => ⟨r, G', F', x, lk.sta (S.after B), ex, hp⟩⟩
theorem pe_call0S {CX : CXT} {k : Nat} {f : Addr} {fd : FuncData} {ps : List Str} {sp : Sp} {E : L2.St → XK} {x : Str} {p pos : Pos} {X : Cx} (F : FnOk X.prog X.w X.K X.mg X.base CX k f fd ps sp) (hr : Room k X.A) (hg : Gl X x) (hm : X.mg x = some (.ref f)) (hk : PySem.W.keepIn X.K (.ref f) = true) (hb : Binds X.K fd ps []) (hx : ∀ σ, PassesAt CX X σ (E σ))
    (hdb : (x == ("__debug__" : Str)) = false := by decide) : PE X (.Call (.Name x p) [] [] pos) (tCallS sp E tNil) := by
  refine ⟨fun pins s σ H Q I h => ?_⟩
  refine wpAny_Call_Name_kw (ld_glob I hg hm ?_ hdb)
  exact PySem.W.callWith_K0 I.kIn hk (run_fnS (us := []) F hr hb (hx σ) I .nil h)
theorem we_call {f : Addr} {fd : FuncData} {ps : List Str} {sp : FSp} {k : Nat} {x : Str} {Q : Res → Env2 → GD → Prop} (tk : X.Tk) (Fo : FnOk X.prog X.w X.K X.mg X.base (CX X.prog X.w) k f fd ps (spD X.K sp)) (hr : Room k X.A) (hg : Gl X x) (hm : X.mg x = some (.ref f)) (hk : PySem.W.keepIn X.K (.ref f) = true) (hb : Binds X.K fd ps [])
    (h : WA X (e :: es) r G fun ds r1 G1 => sp ds G1 (fun z G2 => Q z r1 G2) (fun x G2 => X.QX x r1 G2))
    (hdb : (x == ("__debug__" : Str)) = false := by decide) (he : starEach (e :: es) X.env = (false, eval e X.env) :: starEach es X.env := by rfl) (hpl : (backTo pos (starEach es X.env)).any (·.1) = false := by rfl) : WE X (.Call (.Name x p0) (e :: es) [] pos) r G Q := fun F0 T F H σ lk S =>
  Run.of (pe_callS Fo hr hg hm hk hb (fun σ => passAt tk σ) paR hdb he hpl) ((h F0 T F H σ lk S).mono fun vs H1 ⟨ds, r1, G1, F1, e1, S1, k1, q⟩ => spD_of lk S1 e1 k1 q)
theorem we_call0 {f : Addr} {fd : FuncData} {ps : List Str} {sp : FSp} {k : Nat} {x : Str} {Q : Res → Env2 → GD → Prop} (tk : X.Tk) (Fo : FnOk X.prog X.w X.K X.mg X.base (CX X.prog X.w) k f fd ps (spD X.K sp)) (hr : Room k X.A) (hg : Gl X x) (hm : X.mg x = some (.ref f)) (hk : PySem.W.keepIn X.K (.ref f) = true) (hb : Binds X.K fd ps [])
    (h : sp [] G (fun z G2 => Q z r G2) (fun x G2 => X.QX x r G2)) (hdb : (x == ("__debug__" : Str)) = false := by decide) : WE X (.Call (.Name x p0) [] [] pos) r G Q := fun F0 T F H σ lk S =>
  Run.of (pe_call0S Fo hr hg hm hk hb (fun σ => passAt tk σ) hdb) (spD_of (ds := []) (vs := []) lk S (Ex.refl _) (show RepL _ _ [] [] from rfl) h)
end
/-! ### defs -/
def startD (N : List Str) (ds : List D) : Env2 := ds.map .sh ++ List.replicate (N.length - ds.length) .no
theorem sta_start {K : PySem.W.Frag} {F : Hp} {G : GD} {H : Hp} {N : List Str} {ds : List D} {vs : List V} (hl : ds.length ≤ N.length) (e1 : Ex F H) (e2 : ∀ a d, G a = some d → Own K F H a d) (e3 : ∀ a o, G a = some o → F a = none) (h : RepL K F ds vs) : Sta K F (Tof G H) F G H (startD N ds) (L2.start N vs) := by
  have hv := h.length
  refine ⟨⟨Ex.refl _, fun _ _ z => .inl z, e1, e2, e3, fun a o z => Tof_some z, fun a o z => ?_⟩, ?_, fun i s z => ?_, fun i j d e _ z => ?_⟩
  · unfold Tof at z
    split at z
    · exact z
    · cases z
  · unfold startD L2.start
    simp only [List.length_append, List.length_map, List.length_replicate, hv]
  · unfold startD at z
    by_cases hi : i < ds.length
    · rw [List.getElem?_append_left (by simpa using hi), List.getElem?_map, List.getElem?_eq_getElem hi] at z
      cases z
      obtain ⟨v, q1, q2⟩ := h.get (List.getElem?_eq_getElem hi)
      refine ⟨v, ?_, q2⟩
      unfold L2.start
      rw [List.getElem?_append_left (by rw [List.length_map, hv]; exact hi), List.getElem?_map, q1]
      rfl
    · rw [List.getElem?_append_right (by simpa using hi), List.getElem?_replicate] at z
      split at z
      · cases z; trivial
      · cases z
  · exfalso
    unfold startD at z
    by_cases hi : i < ds.length
    · rw [List.getElem?_append_left (by simpa using hi), List.getElem?_map, List.getElem?_eq_getElem hi] at z
      cases z
    · rw [List.getElem?_append_right (by simpa using hi), List.getElem?_replicate] at z
      split at z
      · cases z
      · cases z
section
variable {P : Program} {w : World} {K : PySem.W.Frag} {mg : Str → Option Value} {base : Heap}
/-- the context of a def's body -/
def cyOf (P : Program) (w : World) (K : PySem.W.Frag) (mg : Str → Option Value) (base : Heap) (N : List Str) (qual : Str) (scope : Scope) (f : Addr) (cd : Value) (A : Around) (outer : List Env) (s : Shared) (H : Hp) (E : XK) (F T : Hp) (px : Exn → GD → Prop) : Cy :=
  { L2.cxOf (L2.CX P w) P w K mg base N qual scope f cd A outer s H E with F0 := F, T := T, QX := fun x _ G => px x G }
theorem def_ok {x qual : Str} {st : Stmt} {f : Addr} {fd : FuncData} {N ps : List Str} {k : Nat} {sp : FSp} (Fo : Fun K x qual st f fd) (S : FnScope N ps (defScope st)) (len : ∀ ds G post px, sp ds G post px → ds.length = ps.length)
    (hbody : ∀ (cdv : Value) (A : Around) (outer : List Env) (s : Shared) (H : Hp) (E : XK) (F T : Hp), Room k (A.deeper (envOfC qual (defScope st) s.heap.objs.size f cdv)) → ∀ (ds : List D) (G : GD) (post : Res → GD → Prop) (px : Exn → GD → Prop), sp ds G post px →
      (cyOf P w K mg base N qual (defScope st) f cdv A outer s H E F T px).Tk → PassesOwn (model P w) (cyOf P w K mg base N qual (defScope st) f cdv A outer s H E F T px).A (cyOf P w K mg base N qual (defScope st) f cdv A outer s H E F T px).env (cyOf P w K mg base N qual (defScope st) f cdv A outer s H E F T px).xe →
      WB (cyOf P w K mg base N qual (defScope st) f cdv A outer s H E F T px) (defBody st) (startD N ds) G { nx := fun _ G' => post (.sh .non) G', rt := post }) : FnOk P w K mg base (L2.CX P w) (k + 1) f fd ps (spD K sp) := by
  refine Fo.okX S (fun vs H Q E h => ?_) (fun cdv A outer s H vs Q E hr h => ?_)
  · obtain ⟨F, G, ds, post, px, _, _, _, rp, hf, _⟩ := h
    rw [rp.length, len ds G post px hf]
  · obtain ⟨F, G, ds, post, px, e1, e2, e3, rp, hf, hq, hx⟩ := h
    have hl : ds.length ≤ N.length := by
      rw [len ds G post px hf]
      have := congrArg List.length S.pre
      rw [List.length_take] at this
      omega
    refine ⟨RunB _ (defBody st), pbR, ?_⟩
    have tk : (cyOf P w K mg base N qual (defScope st) f cdv A outer s H E F (Tof G H) px).Tk := (takes_of (E := E) rfl rfl rfl rfl).imp fun cls d σ H' ⟨r, G', F', x, S', ex, q⟩ => hx x cls d G' H' F' q S'.bas ex
    refine (hbody cdv A outer s H E F (Tof G H) hr ds G post px hf tk (passes_of rfl) F (Tof G H) F H (L2.start N vs) ⟨Ex.refl _, Ex.refl _, fun _ _ z => .inl z⟩ (sta_start hl e1 e2 e3 rp)).mono (fun σ' H' ⟨r', G', F', S', q⟩ => ?_) (fun v H' ⟨x, G', F', B, rt, q⟩ => hq x G' v H' F' q B rt) (fun _ _ ⟨_, _, _, _, q⟩ => q) (fun _ _ ⟨_, _, _, _, q⟩ => q)
    exact hq (.sh .non) G' .non H' F' q S'.bas rfl
end


/-! ### own lists changed -/
theorem Sta.mut {K : PySem.W.Frag} {F0 T F : Hp} {G : GD} {H : Hp} {r : Env2} {σ : L2.St} (S : Sta K F0 T F G H r σ) {i : Nat} {d0 : D} (h : r[i]? = some (.own d0)) :
    ∃ p, σ[i]? = some (some (.ref p)) ∧ Own K F H p d0 ∧ F p = none ∧ ∀ (o' : HO) (d' : D), Own K F (upd H p o') p d' → Sta K F0 T F G (upd H p o') (r.set i (.own d')) σ := by
  obtain ⟨p, h1, h2, h3, h4, h5⟩ := S.ownS h
  have hi : i < r.length := (List.getElem?_eq_some_iff.mp h).1
  refine ⟨p, h1, h2, h3, fun o' d' ho => ⟨S.bas.put h3 h4 h5, by rw [List.length_set]; exact S.len, fun j s e => ?_, fun j k d e hjk ej ek => ?_⟩⟩
  · by_cases hj : i = j
    · subst hj
      rw [List.getElem?_set_self hi] at e
      cases e
      exact ⟨p, h1, ho, h3, h4, h5⟩
    · rw [List.getElem?_set_ne hj] at e
      have q := S.sl j s e
      cases s with
      | no => trivial
      | sh d => exact q
      | own d =>
        obtain ⟨p', q1, q2, q3, q4, q5⟩ := q
        have hpp : p' ≠ p := fun z => by
          subst z
          exact S.ap i j d0 d hj h e (h1.trans q1.symm)
        exact ⟨p', q1, q2.mono (Ex.refl _) fun u hu => by rw [upd_ne hpp]; exact hu, q3, q4, q5⟩
  · have own : ∀ (m : Nat) (x : D), (r.set i (.own d'))[m]? = some (.own x) → ∃ y, r[m]? = some (.own y) := fun m x hm => by
      by_cases hm2 : i = m
      · subst hm2; exact ⟨d0, h⟩
      · rw [List.getElem?_set_ne hm2] at hm; exact ⟨x, hm⟩
    obtain ⟨y1, hy1⟩ := own j d ej
    obtain ⟨y2, hy2⟩ := own k e ek
    exact S.ap j k y1 y2 hjk hy1 hy2
section
variable {X : Cy} {e e2 a b c o tg : Expr} {es : List Expr} {st : Stmt} {sts rest body orelse : List Stmt} {r : Env2} {G : GD} {pos apos cpos p0 : Pos} {D0 : EndsD}
/-- what a method does to an own list: the answer, the new content -/
def MutW (X : Cy) (id : String) (ds args : List D) (Kt : D → List D → Prop) : Prop :=
  ∀ (F H : Hp) (p : Addr) (vs us : List V), H p = some (.lst vs) → F p = none → Ex F H → RepL X.K F ds vs → RepL X.K F args us →
    ∃ rr, MtR X id rr ∧ rr (.ref p) us H (fun v' H' => ∃ vs' res ds', H' = upd H p (.lst vs') ∧ Rep X.K F res v' ∧ RepL X.K F ds' vs' ∧ Kt res ds')
def mtU (X : Cy) (id : String) : V → List V → Hp → VK → Prop := fun x xs H Q => ∃ rr, MtR X id rr ∧ rr x xs H Q
theorem mtU_ok {id : String} : MtR X id (mtU X id) := fun pins s σ H x xs v us Q I rx rv ⟨rr, h1, h2⟩ => h1 pins s σ H x xs v us Q I rx rv h2
theorem MtR.post {id : String} {rr : V → List V → Hp → VK → Prop} (h : MtR X id rr) (P : VK) : MtR X id (fun x xs H Q' => rr x xs H P ∧ ∀ v H', P v H' → Q' v H') := fun pins s σ H x xs v us Q' I rx rv ⟨q, m⟩ =>
  wpAny_mono (h pins s σ H x xs v us P I rx rv q) (fun _ _ ⟨v, H', I', rl, q⟩ => ⟨v, H', I', rl, m v H' q⟩) fun _ _ x => x
theorem mut_end {id : String} {ds args : List D} {i : Nat} {F0 T F F1 H : Hp} {σ : L2.St} {v : V} {us : List V} {Q : Res → Env2 → GD → Prop} (e1 : Ex F F1) (S : Sta X.K F0 T F1 G H r σ) (hi : r[i]? = some (.own (.lst ds))) (hv : σ[i]? = some (some v)) (ha : RepL X.K F1 args us)
    (h : MutW X id ds args fun res ds' => Q (.sh res) (r.set i (.own (.lst ds'))) G) : mtU X id v us H (PostE X.K F0 T F σ Q) := by
  obtain ⟨p, h1, ⟨vs, h2, h3⟩, h4, h5⟩ := S.mut hi
  rw [hv] at h1; cases h1
  obtain ⟨rr, k1, k2⟩ := h F1 H p vs us h2 h4 S.bas.fh h3 ha
  refine ⟨_, MtR.post k1 _, k2, fun v' H' ⟨vs', res, ds', z1, z2, z3, z4⟩ => ?_⟩
  subst z1
  exact ⟨.sh res, _, G, F1, e1, h5 _ (.lst ds') ⟨vs', upd_same, z3⟩, z2, z4⟩
theorem we_m1 {name : Str} {id : String} {Q : Res → Env2 → GD → Prop} (pa : PlainAttrs "list") (slot : Slot "list" name id) (hty : typeOf (.builtin id) = pure (.type "method_descriptor"))
    (h : WE X o r G fun x r1 G1 => ∃ i ds0, x = .pk i ∧ r1[i]? = some (.own (.lst ds0)) ∧ WE X e r1 G1 fun y r2 G2 => ∃ d r3 ds, fz r2 y = some (d, r3) ∧ r3[i]? = some (.own (.lst ds)) ∧ MutW X id ds [d] fun res ds' => Q (.sh res) (r3.set i (.own (.lst ds'))) G2)
    (hbase : attributeBase o name X.env (eval o X.env) = eval o X.env := by rfl)
    (hfew : ((backTo cpos (starEach [e] X.env)).all (fun x => !x.1) && (backToKw cpos (keywordEach [] X.env)).all (fun x => x.1.isSome) && decide (([e] : List Expr).length + ([] : List Keyword).length + (if ([] : List Keyword).isEmpty then 0 else 1) < 30)) = true := by rfl)
    (hline : (apos.endLine == cpos.line) = true := by rfl) (hs : starEach [e] X.env = (false, eval e X.env) :: starEach [] X.env := by rfl) (hplain : (backTo cpos (starEach [] X.env)).any (·.1) = false := by rfl) :
    WE X (.Call (.Attribute o name apos) [e] [] cpos) r G Q := fun F0 T F H σ lk S =>
  Run.of (pe_bm pa slot hty mtU_ok peR (pa_cons peR pa_nil hs) hbase hfew hline hs hplain) ((h F0 T F H σ lk S).mono fun v H1 ⟨x, r1, G1, F1, e1, S1, k1, i, ds0, hx, hi0, h1⟩ => by
    subst hx
    obtain ⟨hv, _⟩ := k1
    obtain ⟨p, h1', ⟨vs, h2, h3⟩, _⟩ := S1.mut hi0
    rw [hv] at h1'; cases h1'
    refine ⟨.inl ⟨rfl, vs, .inl (.inl h2)⟩, (h1 F0 T F1 H1 σ lk S1).mono fun w H2 ⟨y, r2, G2, F2, e2, S2, k2, d, r3, ds, q1, q2, q3⟩ => ?_⟩
    obtain ⟨F3, e3, S3, rp⟩ := S2.fz k2 q1
    exact mut_end ((e1.trans e2).trans e3) S3 q2 hv (.one rp) q3)
theorem we_m0 {name : Str} {id : String} {Q : Res → Env2 → GD → Prop} (pa : PlainAttrs "list") (slot : Slot "list" name id) (hty : typeOf (.builtin id) = pure (.type "method_descriptor"))
    (h : WE X o r G fun x r1 G1 => ∃ i ds, x = .pk i ∧ r1[i]? = some (.own (.lst ds)) ∧ MutW X id ds [] fun res ds' => Q (.sh res) (r1.set i (.own (.lst ds'))) G1)
    (hbase : attributeBase o name X.env (eval o X.env) = eval o X.env := by rfl) (hline : (apos.endLine == cpos.line) = true := by rfl) :
    WE X (.Call (.Attribute o name apos) [] [] cpos) r G Q := fun F0 T F H σ lk S =>
  Run.of (pe_bm0 pa slot hty mtU_ok peR hbase hline) ((h F0 T F H σ lk S).mono fun v H1 ⟨x, r1, G1, F1, e1, S1, k1, i, ds, hx, hi0, h1⟩ => by
    subst hx
    obtain ⟨hv, _⟩ := k1
    obtain ⟨p, h1', ⟨vs, h2, h3⟩, _⟩ := S1.mut hi0
    rw [hv] at h1'; cases h1'
    exact ⟨.inl ⟨rfl, vs, .inl (.inl h2)⟩, mut_end (args := []) e1 S1 hi0 hv rfl h1⟩)
theorem mw_append {ds : List D} {d : D} {Kt : D → List D → Prop} (hl : ds.length < LIM) (k : Kt .non (ds ++ [d])) : MutW X "list.append" ds [d] Kt := fun F H p vs us hp hf ex h1 h2 => by
  obtain ⟨v, u', rfl, h3, h4⟩ := h2
  cases (show u' = [] from h4)
  exact ⟨_, mt_append, p, vs, v, rfl, rfl, hp, by rw [h1.length]; exact lim_lt hl, vs ++ [v], .non, ds ++ [d], rfl, rfl, h1.append (.one h3), k⟩
def rExtendR : V → List V → Hp → VK → Prop := fun x vs H Q => ∃ l b xs zs, x = .ref l ∧ vs = [.ref b] ∧ H l = some (.lst xs) ∧ Rd H b (.lst zs) ∧ xs.length + zs.length ≤ sizeLine ∧ Q .non (upd H l (.lst (xs ++ zs)))
theorem mt_extendR {X : Cx} : MtR X "list.extend" rExtendR := by
  intro pins s σ H x vs v us Q I rx rv h
  obtain ⟨l, b, xs, zs, rfl, rfl, hH, hB, hz, q⟩ := h
  cases rx
  obtain ⟨u, rfl, ru⟩ := rv.one
  cases ru
  obtain ⟨z, its, n, r, hl, e⟩ := I.lstM hH
  obtain ⟨z2, its2, n2, r2, e2⟩ := lst_of I hB
  have hl2 := r2.length
  have hsz : its.toArray.size + its2.toArray.size ≤ sizeLine := by rw [List.size_toArray, List.size_toArray]; omega
  have hlong : ¬ (!its.toArray.isEmpty && Builtin.List.listTooLong (its.toArray.size + its2.toArray.size)) = true := by
    rw [notLongL hsz, Bool.and_false]
    exact Bool.false_ne_true
  refine call_meets F.slot_list_extend ⟨_, e, rfl⟩ F.entry_list_extend (F.args_list_extend_2 _ _)
    (AutoSeq1.list_extend_list_list_0 l its.toArray n b its2.toArray n2 hlong (by rw [List.size_toArray]; omega) (by omega)) ⟨e, e2, ?_⟩
  refine ⟨.non, _, I.lset (its' := its ++ its2) hH e (by simp) (r.append r2) ?_, rfl, q⟩
  rw [List.length_append]
  omega
theorem mw_extend {ds es : List D} {Kt : D → List D → Prop} (hl : ds.length + es.length ≤ LIM) (k : Kt .non (ds ++ es)) : MutW X "list.extend" ds [.lst es] Kt := fun F H p vs us hp hf ex h1 h2 => by
  obtain ⟨v, u', rfl, ⟨q, ws, rfl, h5, h6⟩, h4⟩ := h2
  cases (show u' = [] from h4)
  exact ⟨_, mt_extendR, p, q, vs, ws, rfl, rfl, hp, ex.rd h5, by rw [h1.length, h6.length]; exact lim_ok hl, vs ++ ws, .non, ds ++ es, rfl, rfl, h1.append h6, k⟩
theorem mw_popAt {ds : List D} {i : Nat} {d : D} {Kt : D → List D → Prop} (hi : ds[i]? = some d) (hl : ds.length ≤ LIM) (k : Kt d (ds.eraseIdx i)) : MutW X "list.pop" ds [.int (i : Nat)] Kt := fun F H p vs us hp hf ex h1 h2 => by
  obtain ⟨v, u', rfl, h3, h4⟩ := h2
  cases (show u' = [] from h4)
  cases (show v = .int (i : Nat) from h3)
  obtain ⟨w, k1, k2⟩ := h1.get hi
  have hlt : i < vs.length := (List.getElem?_eq_some_iff.mp k1).1
  have hlt2 : i < LIM := by rw [h1.length] at hlt; omega
  have hb : (i : Int) < 2 ^ 63 := by
    have : (LIM : Int) < 2 ^ 63 := by decide
    omega
  refine ⟨_, mt_popAt, p, vs, (i : Int), i, w, rfl, rfl, hp, by omega, hb, ?_, k1, vs.eraseIdx i, d, ds.eraseIdx i, rfl, k2, h1.eraseIdx i, k⟩
  unfold seqIndex?
  simp
  omega
theorem mw_pop {ds : List D} {d : D} {Kt : D → List D → Prop} (hi : ds[ds.length - 1]? = some d) (k : Kt d ds.dropLast) : MutW X "list.pop" ds [] Kt := fun F H p vs us hp hf ex h1 h2 => by
  cases (show us = [] from h2)
  obtain ⟨w, k1, k2⟩ := h1.get hi
  refine ⟨_, mt_pop, p, vs, w, rfl, rfl, hp, by rw [h1.length]; exact k1, vs.dropLast, d, ds.dropLast, rfl, k2, ?_, k⟩
  rw [List.dropLast_eq_take, List.dropLast_eq_take, h1.length]
  exact h1.take _
theorem we_append {Q : Res → Env2 → GD → Prop}
    (h : WE X o r G fun x r1 G1 => ∃ i ds0, x = .pk i ∧ r1[i]? = some (.own (.lst ds0)) ∧ WE X e r1 G1 fun y r2 G2 => ∃ d r3 ds, fz r2 y = some (d, r3) ∧ r3[i]? = some (.own (.lst ds)) ∧ ds.length < LIM ∧ Q (.sh .non) (r3.set i (.own (.lst (ds ++ [d])))) G2)
    (hbase : attributeBase o "append" X.env (eval o X.env) = eval o X.env := by rfl)
    (hfew : ((backTo cpos (starEach [e] X.env)).all (fun x => !x.1) && (backToKw cpos (keywordEach [] X.env)).all (fun x => x.1.isSome) && decide (([e] : List Expr).length + ([] : List Keyword).length + (if ([] : List Keyword).isEmpty then 0 else 1) < 30)) = true := by rfl)
    (hline : (apos.endLine == cpos.line) = true := by rfl) (hs : starEach [e] X.env = (false, eval e X.env) :: starEach [] X.env := by rfl) (hplain : (backTo cpos (starEach [] X.env)).any (·.1) = false := by rfl) :
    WE X (.Call (.Attribute o "append" apos) [e] [] cpos) r G Q :=
  we_m1 PySem.F.plainAttrs_list PySem.F.slot_list_append PySem.F.type_list_append (h.mono fun x r1 G1 ⟨i, ds0, h1, h2, h3⟩ => ⟨i, ds0, h1, h2, h3.mono fun y r2 G2 ⟨d, r3, ds, k1, k2, k3, k4⟩ => ⟨d, r3, ds, k1, k2, mw_append k3 k4⟩⟩) hbase hfew hline hs hplain
theorem we_extend {Q : Res → Env2 → GD → Prop}
    (h : WE X o r G fun x r1 G1 => ∃ i ds0, x = .pk i ∧ r1[i]? = some (.own (.lst ds0)) ∧ WE X e r1 G1 fun y r2 G2 => ∃ zs r3 ds, fz r2 y = some (.lst zs, r3) ∧ r3[i]? = some (.own (.lst ds)) ∧ ds.length + zs.length ≤ LIM ∧ Q (.sh .non) (r3.set i (.own (.lst (ds ++ zs)))) G2)
    (hbase : attributeBase o "extend" X.env (eval o X.env) = eval o X.env := by rfl)
    (hfew : ((backTo cpos (starEach [e] X.env)).all (fun x => !x.1) && (backToKw cpos (keywordEach [] X.env)).all (fun x => x.1.isSome) && decide (([e] : List Expr).length + ([] : List Keyword).length + (if ([] : List Keyword).isEmpty then 0 else 1) < 30)) = true := by rfl)
    (hline : (apos.endLine == cpos.line) = true := by rfl) (hs : starEach [e] X.env = (false, eval e X.env) :: starEach [] X.env := by rfl) (hplain : (backTo cpos (starEach [] X.env)).any (·.1) = false := by rfl) :
    WE X (.Call (.Attribute o "extend" apos) [e] [] cpos) r G Q :=
  we_m1 PySem.F.plainAttrs_list PySem.F.slot_list_extend PySem.F.type_list_extend (h.mono fun x r1 G1 ⟨i, ds0, h1, h2, h3⟩ => ⟨i, ds0, h1, h2, h3.mono fun y r2 G2 ⟨zs, r3, ds, k1, k2, k3, k4⟩ => ⟨.lst zs, r3, ds, k1, k2, mw_extend k3 k4⟩⟩) hbase hfew hline hs hplain
theorem we_popAt {Q : Res → Env2 → GD → Prop}
    (h : WE X o r G fun x r1 G1 => ∃ i ds0, x = .pk i ∧ r1[i]? = some (.own (.lst ds0)) ∧ WE X e r1 G1 fun y r2 G2 => ∃ j r3 ds d, fz r2 y = some (.int (j : Nat), r3) ∧ r3[i]? = some (.own (.lst ds)) ∧ ds[j]? = some d ∧ ds.length ≤ LIM ∧ Q (.sh d) (r3.set i (.own (.lst (ds.eraseIdx j)))) G2)
    (hbase : attributeBase o "pop" X.env (eval o X.env) = eval o X.env := by rfl)
    (hfew : ((backTo cpos (starEach [e] X.env)).all (fun x => !x.1) && (backToKw cpos (keywordEach [] X.env)).all (fun x => x.1.isSome) && decide (([e] : List Expr).length + ([] : List Keyword).length + (if ([] : List Keyword).isEmpty then 0 else 1) < 30)) = true := by rfl)
    (hline : (apos.endLine == cpos.line) = true := by rfl) (hs : starEach [e] X.env = (false, eval e X.env) :: starEach [] X.env := by rfl) (hplain : (backTo cpos (starEach [] X.env)).any (·.1) = false := by rfl) :
    WE X (.Call (.Attribute o "pop" apos) [e] [] cpos) r G Q :=
  we_m1 PySem.F.plainAttrs_list PySem.F.slot_list_pop PySem.F.type_list_pop (h.mono fun x r1 G1 ⟨i, ds0, h1, h2, h3⟩ => ⟨i, ds0, h1, h2, h3.mono fun y r2 G2 ⟨j, r3, ds, d, k1, k2, k3, k4, k5⟩ => ⟨.int (j : Nat), r3, ds, k1, k2, mw_popAt k3 k4 k5⟩⟩) hbase hfew hline hs hplain
/-- a read-only method of a list with one argument -/
def MtW (X : Cy) (id : String) (dr da : D) (Q : Res → Prop) : Prop :=
  ∀ (F0 T F : Hp) (G : GD) (H : Hp) (r : Env2) (σ : L2.St) (v w : V), Sta X.K F0 T F G H r σ → Vw X.K F H dr v → Vw X.K F H da w →
    ∃ rr, MtR X id rr ∧ rr v [w] H (fun v' H' => ∃ x F', Ex F F' ∧ Sta X.K F0 T F' G H' r σ ∧ ResOk X.K T F' G H' r σ x v' ∧ Q x)
theorem we_r1 {name : Str} {id : String} {Q : Res → Env2 → GD → Prop} (pa : PlainAttrs "list") (slot : Slot "list" name id) (hty : typeOf (.builtin id) = pure (.type "method_descriptor"))
    (h : WE X o r G fun x r1 G1 => ∃ ds0, VwR r1 G1 x (.lst ds0) ∧ WE X e r1 G1 fun y r2 G2 => ∃ dr da, VwR r2 G2 x dr ∧ VwR r2 G2 y da ∧ MtW X id dr da fun z => Q z r2 G2)
    (hbase : attributeBase o name X.env (eval o X.env) = eval o X.env := by rfl)
    (hfew : ((backTo cpos (starEach [e] X.env)).all (fun x => !x.1) && (backToKw cpos (keywordEach [] X.env)).all (fun x => x.1.isSome) && decide (([e] : List Expr).length + ([] : List Keyword).length + (if ([] : List Keyword).isEmpty then 0 else 1) < 30)) = true := by rfl)
    (hline : (apos.endLine == cpos.line) = true := by rfl) (hs : starEach [e] X.env = (false, eval e X.env) :: starEach [] X.env := by rfl) (hplain : (backTo cpos (starEach [] X.env)).any (·.1) = false := by rfl) :
    WE X (.Call (.Attribute o name apos) [e] [] cpos) r G Q := fun F0 T F H σ lk S =>
  Run.of (pe_bm pa slot hty mtU_ok peR (pa_cons peR pa_nil hs) hbase hfew hline hs hplain) ((h F0 T F H σ lk S).mono fun v H1 ⟨x, r1, G1, F1, e1, S1, k1, ds0, hx, h1⟩ => by
    obtain ⟨p, vs, rfl, z1, _⟩ := (S1.viewR k1 hx).lst S1.bas.fh
    obtain ⟨F1', e1', S1', hv⟩ := hold S1 k1
    refine ⟨.inl ⟨rfl, vs, .inl z1⟩, (h1 F0 T F1' H1 σ lk S1').mono fun w H2 ⟨y, r2, G2, F2, e2, S2, k2, dr, da, q1, q2, q3⟩ => ?_⟩
    obtain ⟨rr, h3, h4⟩ := q3 F0 T F2 G2 H2 r2 σ _ w S2 (hv F2 G2 H2 r2 dr e2 S2 q1) (S2.viewR k2 q2)
    exact ⟨_, MtR.post h3 _, h4, fun v H' ⟨z, F', m1, m2, m3, m4⟩ => ⟨z, r2, G2, F', ((e1.trans e1').trans e2).trans m1, m2, m3, m4⟩⟩)

/-! ### list comprehensions -/
def Cy.blk (X : Cy) (s : Shared) (H : Hp) (scope : Scope) (env : Env) (fp : List Addr) : Cy := { X.toCx.blk s H scope env fp with F0 := X.F0, T := X.T, QX := fun _ _ _ => False }
def BlkX (X : Cy) (scope : Scope) (Y : Cy) : Prop := ∃ (s : Shared) (H : Hp) (C : Addr) (cl : List (Str × Addr)) (fp : List Addr), Y = X.blk s H scope (compEnvC scope cl C X.env) fp
theorem BlkX.k {scope : Scope} {Y : Cy} (h : BlkX X scope Y) : Y.K = X.K := by obtain ⟨_, _, _, _, _, rfl⟩ := h; rfl
theorem BlkX.lk {scope : Scope} {Y : Cy} {F0 T : Hp} (h : BlkX X scope Y) (lk : Lk X F0 T) : Lk Y F0 T := by obtain ⟨_, _, _, _, _, rfl⟩ := h; exact ⟨lk.t, lk.f, lk.ft⟩
theorem BlkX.tk {scope : Scope} {Y : Cy} (h : BlkX X scope Y) : Y.Tk := by
  obtain ⟨_, _, _, _, _, rfl⟩ := h
  exact takes0.imp fun _ _ _ _ ⟨_, _, _, _, _, _, z⟩ => z
def wipeD (r : Env2) : List Nat → Env2
  | [] => r
  | i :: is => (wipeD r is).set i .no
theorem wipeD_len (r : Env2) : ∀ is, (wipeD r is).length = r.length
  | [] => rfl
  | i :: is => by unfold wipeD; rw [List.length_set, wipeD_len r is]
theorem Sta.wipe {K : PySem.W.Frag} {F0 T F : Hp} {G : GD} {H : Hp} {r : Env2} {σ σ' : L2.St} (S : Sta K F0 T F G H r σ') : ∀ (is : List Nat), L2.wipe σ' is = L2.wipe σ is → Sta K F0 T F G H (wipeD r is) (L2.wipe σ is) := by
  intro is e
  rw [← e]
  clear e
  have key : ∀ (is : List Nat) (i : Nat) (s : Sl), (wipeD r is)[i]? = some s → s = .no ∨ (r[i]? = some s ∧ (L2.wipe σ' is)[i]? = σ'[i]?) := by
    intro is
    induction is with
    | nil => intro i s h; exact .inr ⟨h, rfl⟩
    | cons j is ih =>
      intro i s h
      unfold wipeD at h
      unfold L2.wipe
      by_cases hj : j = i
      · subst hj
        by_cases hl : j < (wipeD r is).length
        · rw [List.getElem?_set_self hl] at h; left; cases h; rfl
        · rw [List.getElem?_eq_none (by rw [List.length_set]; omega)] at h; cases h
      · rw [List.getElem?_set_ne hj] at h ⊢
        exact ih i s h
  refine ⟨S.bas, by rw [wipeD_len, wipe_length]; exact S.len, fun i s h => ?_, fun i j d e' hij hi hj => ?_⟩
  · rcases key is i s h with z | ⟨z1, z2⟩
    · subst z; trivial
    · rw [z2]; exact S.sl i s z1
  · rcases key is i _ hi with z | ⟨z1, z2⟩
    · cases z
    · rcases key is j _ hj with y | ⟨y1, y2⟩
      · cases y
      · rw [z2, y2]; exact S.ap i j d e' hij z1 y1
/-- what is done in a comprehension's turn, over data -/
def LcTurn (X : Cy) (scope : Scope) (tg elt : Expr) (ifs : List Expr) (is : List Nat) (d : D) (acc : List D) (r : Env2) (G : GD) (Nx : List D → Env2 → GD → Prop) : Prop :=
  ∀ Y, BlkX X scope Y → WG Y tg d r G is fun r1 G1 => match ifs with
    | [] => ∀ Y, BlkX X scope Y → WE Y elt r1 G1 fun z r2 G2 => ∃ d' r3, fz r2 z = some (d', r3) ∧ acc.length < LIM ∧ Nx (acc ++ [d']) (wipeD r3 is) G2
    | [c] => ∀ Y, BlkX X scope Y → WT Y c r1 G1 fun b r2 G2 => (b = true → ∀ Y, BlkX X scope Y → WE Y elt r2 G2 fun z r3 G3 => ∃ d' r4, fz r3 z = some (d', r4) ∧ acc.length < LIM ∧ Nx (acc ++ [d']) (wipeD r4 is) G3) ∧ (b = false → Nx acc (wipeD r2 is) G2)
    | _ => False
/-- the readings of a block, over all its contexts -/
def blkG (X : Cy) (scope : Scope) (tg : Expr) : TG := fun v σ H Q => ∀ Y, BlkX X scope Y → RunG Y tg v σ H Q
def blkE (X : Cy) (scope : Scope) (e : Expr) : TE := fun σ H Q => ∀ Y, BlkX X scope Y → Run Y e σ H Q
def blkT (X : Cy) (scope : Scope) (ifs : List Expr) : TT := fun σ H Q => match ifs with
  | [] => Q true H
  | [c] => ∀ Y, BlkX X scope Y → RunT Y c σ H Q
  | _ => False
theorem blkT_ok {scope : Scope} {ifs : List Expr} (s : Shared) (H : Hp) (C : Addr) (cl : List (Str × Addr)) (fp : List Addr) : PTs (X.toCx.blk s H scope (compEnvC scope cl C X.env) fp) ifs (blkT X scope ifs) := by
  refine ⟨fun pins s' σ H' Q I h => ?_⟩
  match ifs, h with
  | [], h => exact pts_nil.run pins s' σ H' Q I h
  | [c], h => exact (pts_one ptR).run pins s' σ H' Q I (h (X.blk s H scope (compEnvC scope cl C X.env) fp) ⟨s, H, C, cl, fp, rfl⟩)
  | _ :: _ :: _, h => exact h.elim
/-- one turn, over heaps -/
theorem lc_turn {scope : Scope} {elt : Expr} {ifs : List Expr} {is : List Nat} {d : D} {acc : List D} {Nx : List D → Env2 → GD → Prop} {F0 T F H : Hp} {σ : L2.St} {v : V} {L : Addr} {us : List V}
    (lk : Lk X F0 T) (S : Sta X.K F0 (upd T L (.lst us)) F G H r (L2.wipe σ is)) (hT : T L = none) (h0 : F0 L = none) (ha : RepL X.K F0 acc us) (rp : Rep X.K F d v) (h : LcTurn X scope tg elt ifs is d acc r G Nx) {Pn : Hp → Prop}
    (hN : ∀ acc' us' r' G' F' H', Nx acc' r' G' → RepL X.K F' acc' us' → Sta X.K F0 (upd T L (.lst us')) F' G' H' r' (L2.wipe σ is) → Pn H') :
    blkG X scope tg v (L2.wipe σ is) H fun σ2 H2 => L2.wipe σ2 is = L2.wipe σ is ∧ blkT X scope ifs σ2 H2 fun b H3 =>
      if b = true then blkE X scope elt σ2 H3 fun y H4 => ∃ acc', H4 L = some (.lst acc') ∧ acc'.length < sizeLine ∧ Pn (upd H4 L (.lst (acc' ++ [y]))) else Pn H3 := by
  have wi : L2.wipe (L2.wipe σ is) is = L2.wipe σ is := by
    have aux : ∀ (js : List Nat) (τ : L2.St), (∀ j ∈ js, ∀ x, τ[j]? = some x → x = none) → L2.wipe τ js = τ := by
      intro js
      induction js with
      | nil => intro τ _; rfl
      | cons j js ih =>
        intro τ hτ
        unfold L2.wipe
        rw [ih τ fun k hk => hτ k (List.mem_cons_of_mem _ hk)]
        refine List.ext_getElem? fun k => ?_
        by_cases hjk : j = k
        · subst hjk
          by_cases hl : j < τ.length
          · rw [List.getElem?_set_self hl]
            cases e : τ[j]? with
            | none => rw [List.getElem?_eq_none_iff] at e; omega
            | some x => rw [hτ j List.mem_cons_self x e]
          · rw [List.getElem?_eq_none (by rw [List.length_set]; omega), List.getElem?_eq_none (by omega)]
        · rw [List.getElem?_set_ne hjk]
    refine aux is _ fun j hj x hx => ?_
    cases x with
    | none => rfl
    | some y => exact absurd hj (wipe_some hx).2
  have fin : ∀ (F2 : Hp) (G2 : GD) (H4 : Hp) (r2 r3 : Env2) (σ2 : L2.St) (z : Res) (y : V) (d' : D), L2.wipe σ2 is = L2.wipe σ is → Sta X.K F0 (upd T L (.lst us)) F2 G2 H4 r2 σ2 → ResOk X.K (upd T L (.lst us)) F2 G2 H4 r2 σ2 z y → fz r2 z = some (d', r3) → acc.length < LIM → Nx (acc ++ [d']) (wipeD r3 is) G2 →
      ∃ acc', H4 L = some (.lst acc') ∧ acc'.length < sizeLine ∧ Pn (upd H4 L (.lst (acc' ++ [y]))) := fun F2 G2 H4 r2 r3 σ2 z y d' hw S2 k2 q1 q2 q3 => by
    obtain ⟨F3, e3, S3, rp3⟩ := S2.fz k2 q1
    have hL : H4 L = some (.lst us) := S3.bas.tk L _ upd_same
    have ha3 : RepL X.K F3 acc us := RepL.mono S3.bas.ff _ _ ha
    have fL : F3 L = none := by
      cases e : F3 L with
      | none => rfl
      | some u =>
        rcases S3.bas.ft L u e with zz | zz
        · rw [h0] at zz; cases zz
        · rw [upd_same] at zz; cases zz
    have gL : G2 L = none := by
      cases e : G2 L with
      | none => rfl
      | some u => have zz := S3.bas.gt L u e; rw [upd_same] at zz; cases zz
    refine ⟨us, hL, by rw [ha3.length]; exact lim_lt q2, hN _ (us ++ [y]) _ G2 F3 _ q3 (ha3.append (.one rp3)) ?_⟩
    have Sw := S3.wipe is hw
    refine ⟨⟨Sw.bas.ff, fun q u hq => ?_, fun q u hq => ?_, fun q u hq => ?_, Sw.bas.fg, fun q u hq => ?_, fun q u hq => ?_⟩, Sw.len, fun i s hs => ?_, Sw.ap⟩
    · have hqL : q ≠ L := fun zz => by subst zz; rw [fL] at hq; cases hq
      have := Sw.bas.ft q u hq
      rw [upd_ne hqL] at this ⊢
      exact this
    · have hqL : q ≠ L := fun zz => by subst zz; rw [fL] at hq; cases hq
      rw [upd_ne hqL]; exact Sw.bas.fh q u hq
    · have hqL : q ≠ L := fun zz => by subst zz; rw [gL] at hq; cases hq
      exact (Sw.bas.gh q u hq).mono (Ex.refl _) fun o ho => by rw [upd_ne hqL]; exact ho
    · have hqL : q ≠ L := fun zz => by subst zz; rw [gL] at hq; cases hq
      have := Sw.bas.gt q u hq
      rw [upd_ne hqL] at this ⊢
      exact this
    · by_cases hqL : q = L
      · subst hqL; rw [upd_same] at hq ⊢; exact hq
      · rw [upd_ne hqL] at hq ⊢
        exact Sw.bas.tk q u (by rw [upd_ne hqL]; exact hq)
    · have hh := Sw.sl i s hs
      cases s with
      | no => trivial
      | sh d => exact hh
      | own d =>
        obtain ⟨p, k1, k3, k4, k5, k6⟩ := hh
        have hpL : p ≠ L := fun zz => by subst zz; rw [upd_same] at k6; cases k6
        rw [upd_ne hpL] at k6
        exact ⟨p, k1, k3.mono (Ex.refl _) (fun u hu => by rw [upd_ne hpL]; exact hu), k4, k5, by rw [upd_ne hpL]; exact k6⟩
  intro Y hY pins s u I rv
  have lk' : Lk X F0 (upd T L (.lst us)) := lk.ext (Ex.new hT)
  have hYK : Y.K = X.K := hY.k
  have h' := h Y hY
  unfold WG at h'
  rw [hYK] at h'
  refine wpAny_mono (h' F0 (upd T L (.lst us)) F H (L2.wipe σ is) v (hY.lk lk') S rp pins s u I rv) (fun _ s' ⟨σ', H', I', hw, r', G', F', e', S', q⟩ => ⟨σ', H', I', hw.trans wi, ?_⟩) fun _ _ x => x
  have hw' := hw.trans wi
  match ifs, q with
  | [], q =>
    unfold blkT
    dsimp only
    rw [if_pos rfl]
    intro Z hZ
    have q' := q Z hZ
    unfold WE at q'
    rw [hZ.k] at q'
    exact (q' F0 _ F' H' σ' (hZ.lk lk') S').mono fun y H4 ⟨z, r2, G2, F2, e2, S2, k2, d', r3, m1, m2, m3⟩ => fin F2 G2 H4 r2 r3 σ' z y d' hw' S2 k2 m1 m2 m3
  | [c], q =>
    intro Z hZ
    have q' := q Z hZ
    unfold WT at q'
    rw [hZ.k] at q'
    refine (q' F0 _ F' H' σ' (hZ.lk lk') S').mono fun b H3 ⟨r2, G2, F2, e2, S2, m1, m2⟩ => ?_
    cases b with
    | true =>
      rw [if_pos rfl]
      intro W hW
      have q2 := m1 rfl W hW
      unfold WE at q2
      rw [hW.k] at q2
      exact (q2 F0 _ F2 H3 σ' (hW.lk lk') S2).mono fun y H4 ⟨z, r3, G3, F3, e3, S3, k3, d', r4, n1, n2, n3⟩ => fin F3 G3 H4 r3 r4 σ' z y d' hw' S3 k3 n1 n2 n3
    | false =>
      rw [if_neg Bool.false_ne_true]
      exact hN acc us _ G2 F2 H3 (m2 rfl) (RepL.mono S2.bas.ff _ _ ha) (S2.wipe is hw')
  | _ :: _ :: _, q => exact q.elim

/-- what a comprehension's loop keeps -/
def LcInv (K : PySem.W.Frag) (T Fa : Hp) (τ : L2.St) (L : Addr) (I : List D → Env2 → GD → Prop) : Hp → Prop := fun H' =>
  ∃ acc us r' G' F', RepL K F' acc us ∧ Sta K Fa (upd T L (.lst us)) F' G' H' r' τ ∧ I acc r' G'
theorem lc_begin {K : PySem.W.Frag} {F0 T F H : Hp} {σ : L2.St} {is : List Nat} {L : Addr} {I : List D → Env2 → GD → Prop} (S : Sta K F0 T F G H r σ) (hL : H L = none) (h0 : I [] (wipeD r is) G) : LcInv K T F (L2.wipe σ is) L I (upd H L (.lst [])) := by
  obtain ⟨f1, f2, f3⟩ := S.bas.freshF hL
  have Sb := (S.newH (o := .lst []) hL).base.wipe (σ := σ) is rfl
  refine ⟨[], [], _, G, F, rfl, ⟨⟨Sb.bas.ff, fun q u hq => .inl hq, Sb.bas.fh, Sb.bas.gh, Sb.bas.fg, fun q u hq => ?_, fun q u hq => ?_⟩, Sb.len, fun i s hs => ?_, Sb.ap⟩, h0⟩
  · have hq' : q ≠ L := fun z => by subst z; rw [f2] at hq; cases hq
    rw [upd_ne hq']; exact Sb.bas.gt q u hq
  · by_cases hq' : q = L
    · subst hq'; rw [upd_same] at hq ⊢; exact hq
    · rw [upd_ne hq'] at hq; exact Sb.bas.tk q u hq
  · have hh := Sb.sl i s hs
    cases s with
    | no => trivial
    | sh d => exact hh
    | own d =>
      obtain ⟨p, k1, k2, k3, k4, k5⟩ := hh
      have hp : p ≠ L := fun z => by
        subst z
        by_cases hi : i ∈ is
        · have : (L2.wipe σ is)[i]? ≠ some (some (V.ref p)) := fun z => (wipe_some z).2 hi
          exact this k1
        · have e := (wipe_some k1).1
          have hr : r[i]? = some (.own d) := by
            have aux : ∀ (js : List Nat), i ∉ js → (wipeD r js)[i]? = r[i]? := by
              intro js
              induction js with
              | nil => intro _; rfl
              | cons j js ih =>
                intro hj
                unfold wipeD
                rw [List.getElem?_set_ne (fun z => hj (by rw [z]; exact List.mem_cons_self)), ih (fun z => hj (List.mem_cons_of_mem _ z))]
            rw [aux is hi] at hs
            exact hs
          exact S.freshR hL i d hr e
      exact ⟨p, k1, k2, k3, k4, by rw [upd_ne hp]; exact k5⟩
theorem lc_end {K : PySem.W.Frag} {F0 T Fa : Hp} {Ga : GD} {Ha H' : Hp} {σ : L2.St} {is : List Nat} {L : Addr} {I : List D → Env2 → GD → Prop} {Q : Res → Env2 → GD → Prop} (B : Bas K F0 T Fa Ga Ha) (hL : Ha L = none) (hσ : Wk r (wipeD r is)) (S0 : Sta K F0 T Fa Ga Ha r σ) (h : LcInv K T Fa (L2.wipe σ is) L I H') (he : ∀ acc r' G', I acc r' G' → Q (.fr (.lst acc)) r' G') :
    PostE K F0 T Fa σ Q (.ref L) H' := by
  obtain ⟨acc, us, r', G', F', ha, S, q⟩ := h
  obtain ⟨f1, f2, f3⟩ := B.freshF hL
  have fL : F' L = none := by
    cases e : F' L with
    | none => rfl
    | some u =>
      rcases S.bas.ft L u e with zz | zz
      · rw [f1] at zz; cases zz
      · rw [upd_same] at zz; cases zz
  have gL : G' L = none := by
    cases e : G' L with
    | none => rfl
    | some u => have zz := S.bas.gt L u e; rw [upd_same] at zz; cases zz
  have tsub : ∀ q u, T q = some u → upd T L (.lst us) q = some u := fun q u hq => by
    have hqL : q ≠ L := fun zz => by subst zz; rw [f3] at hq; cases hq
    rw [upd_ne hqL]; exact hq
  have tdown : ∀ q, upd T L (.lst us) q = none → T q = none := fun q hq => by
    cases hf : T q with
    | none => rfl
    | some u => rw [tsub q u hf] at hq; cases hq
  have slots : ∀ (i : Nat) (s : Sl), r'[i]? = some s → SlotOk K T F' G' H' s σ[i]? := fun i s hs => by
    have hh := S.sl i s hs
    cases s with
    | no => trivial
    | sh d => obtain ⟨v, k1, k2⟩ := hh; exact ⟨v, (wipe_some k1).1, k2⟩
    | own d => obtain ⟨p, k1, k2, k3, k4, k5⟩ := hh; exact ⟨p, (wipe_some k1).1, k2, k3, k4, tdown p k5⟩
  have St : Sta K F0 T F' G' H' r' σ := by
    refine ⟨⟨B.ff.trans S.bas.ff, fun q u hq => ?_, S.bas.fh, S.bas.gh, S.bas.fg, fun q u hq => tdown q (S.bas.gt q u hq), fun q u hq => S.bas.tk q u (tsub q u hq)⟩, by rw [S.len, wipe_length], slots, fun i j d e hij hi hj z => ?_⟩
    · rcases S.bas.ft q u hq with zz | zz
      · exact B.ft q u zz
      · exact .inr (tdown q zz)
    · obtain ⟨p, k1, _⟩ := S.ownS hi
      obtain ⟨p2, m1, _⟩ := S.ownS hj
      refine S.ap i j d e hij hi hj ?_
      rw [(wipe_some k1).1, (wipe_some m1).1] at z
      rw [k1, m1, z]
  refine ⟨.fr (.lst acc), r', G', F', S.bas.ff, St, ⟨L, rfl, ⟨us, S.bas.tk L _ upd_same, ha⟩, fL, gL, f3, fun i d hi z => ?_⟩, he acc r' G' q⟩
  obtain ⟨p, k1, _, _, _, k5⟩ := S.ownS hi
  have e1 := (wipe_some k1).1
  rw [e1] at z; cases z
  rw [upd_same] at k5; cases k5
theorem wk_wipe (r : Env2) : ∀ is, Wk r (wipeD r is)
  | [] => Wk.refl r
  | i :: is => by
    have ih := wk_wipe r is
    unfold wipeD
    have aux : ∀ {a b : Env2}, Wk a b → ∀ i, Wk a (b.set i .no) := by
      intro a b w
      induction w with
      | nil => intro i; exact .nil
      | no w ih =>
        intro i
        cases i with
        | zero => exact .no w
        | succ i => exact .no (ih i)
      | eq w ih =>
        intro i
        cases i with
        | zero => exact .no w
        | succ i => exact .eq (ih i)
    exact aux ih i
/-- one step of a comprehension over items -/
theorem lc_step {scope : Scope} {elt : Expr} {ifs : List Expr} {is : List Nat} {d : D} {J : It} {ds : List D} {i : Nat} {T Fa : Hp} {H H' : Hp} {σ : L2.St} {v : V} {L : Addr} {I I' : List D → Env2 → GD → Prop} (lk : Lk X Fa T) (hL : Fa L = none) (hT : T L = none) (hJ : ItD X.K J Fa ds) (hi : ds[i]? = some d) (h : LcInv X.K T Fa (L2.wipe σ is) L I H) (y : J.yld i H v H')
    (hs : ∀ acc r' G', I acc r' G' → LcTurn X scope tg elt ifs is d acc r' G' I') :
    blkG X scope tg v (L2.wipe σ is) H' fun σ2 H2 => L2.wipe σ2 is = L2.wipe σ is ∧ blkT X scope ifs σ2 H2 fun b H3 =>
      if b = true then blkE X scope elt σ2 H3 fun y H4 => ∃ acc', H4 L = some (.lst acc') ∧ acc'.length < sizeLine ∧ LcInv X.K T Fa (L2.wipe σ is) L I' (upd H4 L (.lst (acc' ++ [y]))) else LcInv X.K T Fa (L2.wipe σ is) L I' H3 := by
  obtain ⟨acc, us, r', G', F1, ha1, S1, q⟩ := h
  obtain ⟨F', ef, S, rp⟩ := hJ.item S1.bas.ff S1 hi y
  have ha := RepL.mono ef _ _ ha1
  have fL : F' L = none := by
    cases e : F' L with
    | none => rfl
    | some u =>
      rcases S.bas.ft L u e with zz | zz
      · rw [hL] at zz; cases zz
      · rw [upd_same] at zz; cases zz
  have lk' : Lk X F' T := ⟨lk.t, lk.f.trans S.bas.ff, fun a o ho => (S.bas.ft a o ho).elim (fun z => lk.ft a o z) fun z => .inr (none_of lk.t (none_of (Ex.new hT) z))⟩
  refine lc_turn lk' S.base hT fL ha rp (hs acc r' G' q) fun acc' us' r2 G2 F2 H2 q2 ha2 S2 => ?_
  refine ⟨acc', us', r2, G2, F2, ha2, ⟨⟨S.bas.ff.trans S2.bas.ff, fun q u hq => ?_, S2.bas.fh, S2.bas.gh, S2.bas.fg, S2.bas.gt, S2.bas.tk⟩, S2.len, S2.sl, S2.ap⟩, q2⟩
  rcases S2.bas.ft q u hq with zz | zz
  · rcases S.bas.ft q u zz with yy | yy
    · exact .inl yy
    · by_cases hqL : q = L
      · subst hqL; rw [fL] at zz; cases zz
      · rw [upd_ne hqL] at yy ⊢; exact .inr yy
  · exact .inr zz
/-- [elt for tg in e if ..] -/
theorem lcI {scope : Scope} {elt : Expr} {ifs : List Expr} {own : List (Str × Nat)} {Q : Res → Env2 → GD → Prop} {F0 T F H : Hp} {σ : L2.St} (lk : Lk X F0 T) (S : Sta X.K F0 T F G H r σ)
    (h : WI X tg e r G fun ds r2 G1 => ∃ I : Nat → List D → Env2 → GD → Prop, I 0 [] (wipeD r2 (own.map (·.2))) G1 ∧ (∀ (k : Nat) (d : D) (acc : List D) (r3 : Env2) (G3 : GD), ds[k]? = some d → I k acc r3 G3 → LcTurn X scope tg elt ifs (own.map (·.2)) d acc r3 G3 (I (k + 1))) ∧
      ∀ acc r3 G3, I ds.length acc r3 G3 → Q (.fr (.lst acc)) r3 G3) : tLc (RunI X tg e) (blkG X scope tg) (blkT X scope ifs) (blkE X scope elt) (own.map (·.2)) σ H (PostE X.K F0 T F σ Q) := by
  refine (h F0 T F H σ lk S).mono fun J H1 ⟨ds, r2, G1, Fa, e1, Sa, hJ, I, i0, it, ie⟩ L hL => ?_
  obtain ⟨f1, f2, f3⟩ := Sa.bas.freshF hL
  refine ⟨fun i m H' => m = ds.length - i ∧ i ≤ ds.length ∧ LcInv X.K T Fa (L2.wipe σ (own.map (·.2))) L (I i) H', ⟨ds.length, by simp, Nat.zero_le _, lc_begin Sa hL i0⟩, ?_⟩
  rintro i m H' ⟨rfl, hi, hI⟩
  obtain ⟨_, _, _, _, F', _, S', _⟩ := id hI
  obtain ⟨j1, j2⟩ := hJ F' H' S'.bas.ff S'.bas.fh
  by_cases hlt : i < ds.length
  · obtain ⟨j3, _⟩ := j2 i ds[i] (List.getElem?_eq_getElem hlt)
    refine .inr ⟨j3, fun H2 => LcInv X.K T Fa (L2.wipe σ (own.map (·.2))) L (I (i + 1)) H2, fun H2 p2 => ⟨ds.length - (i + 1), by omega, rfl, hlt, p2⟩, fun x H2 y => ?_⟩
    exact lc_step (lk.base Sa.bas) f1 f3 hJ (List.getElem?_eq_getElem hlt) hI y fun acc r' G' q => it i ds[i] acc r' G' (List.getElem?_eq_getElem hlt) q
  · have e : i = ds.length := by omega
    subst e
    exact .inl ⟨j1, (lc_end Sa.bas hL (wk_wipe _ _) Sa hI fun acc r' G' q => ie acc r' G' q).ext e1⟩
theorem blkG_ok {scope : Scope} (s : Shared) (H : Hp) (C : Addr) (cl : List (Str × Addr)) (fp : List Addr) : PG (X.toCx.blk s H scope (compEnvC scope cl C X.env) fp) tg (blkG X scope tg) :=
  ⟨fun pins s' σ H' v u Q I rv h => h (X.blk s H scope (compEnvC scope cl C X.env) fp) ⟨s, H, C, cl, fp, rfl⟩ pins s' u I rv⟩
theorem blkE_ok {scope : Scope} {elt : Expr} (s : Shared) (H : Hp) (C : Addr) (cl : List (Str × Addr)) (fp : List Addr) : PE (X.toCx.blk s H scope (compEnvC scope cl C X.env) fp) elt (blkE X scope elt) :=
  ⟨fun pins s' σ H' Q I h => h (X.blk s H scope (compEnvC scope cl C X.env) fp) ⟨s, H, C, cl, fp, rfl⟩ pins s' I⟩
theorem we_lc {scope : Scope} {elt : Expr} {ifs : List Expr} (own : List (Str × Nat)) {Q : Res → Env2 → GD → Prop} (hc : X.calm = true) (hN : X.N.Nodup) (ok : BlkOk X.N X.env.scope scope own)
    (h : WI X tg e r G fun ds r2 G1 => ∃ I : Nat → List D → Env2 → GD → Prop, I 0 [] (wipeD r2 (own.map (·.2))) G1 ∧ (∀ (k : Nat) (d : D) (acc : List D) (r3 : Env2) (G3 : GD), ds[k]? = some d → I k acc r3 G3 → LcTurn X scope tg elt ifs (own.map (·.2)) d acc r3 G3 (I (k + 1))) ∧
      ∀ acc r3 G3, I ds.length acc r3 G3 → Q (.fr (.lst acc)) r3 G3) (hs : ∀ x, foldedSetIterable e X.env x = pure x := by intro _; rfl) : WE X (.ListComp elt [⟨tg, e, ifs, 0⟩] scope pos) r G Q := fun F0 T F H σ lk S =>
  Run.of (pe_lc hc hN piR ok blkG_ok blkT_ok blkE_ok hs) (lcI lk S h)
/-- y = [..] -/
theorem ws_setLc {scope : Scope} {elt : Expr} {ifs : List Expr} (own : List (Str × Nat)) (i : Nat) {y : Str} {py spos : Pos} (hc : X.calm = true) (hN : X.N.Nodup) (hy : X.N[i]? = some y) (hyl : X.env.scope.names.lookup y = some .local)
    (hsw : swapsWith (.ListComp elt [⟨tg, e, ifs, 0⟩] scope pos) (some (.Name y py)) spos.line X.env = pure true) (ok : BlkOk X.N X.env.scope scope own)
    (h : WI X tg e r G fun ds r2 G1 => ∃ I : Nat → List D → Env2 → GD → Prop, I 0 [] (wipeD r2 (own.map (·.2))) G1 ∧ (∀ (k : Nat) (d : D) (acc : List D) (r3 : Env2) (G3 : GD), ds[k]? = some d → I k acc r3 G3 → LcTurn X scope tg elt ifs (own.map (·.2)) d acc r3 G3 (I (k + 1))) ∧
      ∀ acc r3 G3, I ds.length acc r3 G3 → i < r3.length ∧ ∃ r2, putS r3 i (.fr (.lst acc)) = some r2 ∧ D0.nx r2 G3) (hs : ∀ x, foldedSetIterable e X.env x = pure x := by intro _; rfl) : WS X (.Assign [.Name y py] (.ListComp elt [⟨tg, e, ifs, 0⟩] scope pos) spos) r G D0 := fun F0 T F H σ lk S =>
  RunS.of (ps_setLc hc hN hy hyl hsw piR ok blkG_ok blkT_ok blkE_ok hs) (by
    have q := lcI (Q := fun y r1 G1 => i < r1.length ∧ ∃ r2, putS r1 i y = some r2 ∧ D0.nx r2 G1) (own := own) (scope := scope) (elt := elt) (ifs := ifs) lk S h
    refine RunI.mono q fun J H1 h1 L hL => ?_
    obtain ⟨W, w0, ws⟩ := h1 L hL
    refine ⟨W, w0, fun i' m H hW => (ws i' m H hW).imp (fun ⟨z1, z2⟩ => ⟨z1, ?_⟩) id⟩
    obtain ⟨y, r1, G1, F1, e1, S1, k1, hi, r2, q1, q2⟩ := z2
    obtain ⟨F2, e2, S2⟩ := S1.putS k1 hi q1
    exact ⟨r2, G1, F2, S2, q2⟩)
end


/-! ### the open region -/
theorem Sta.gput {K : PySem.W.Frag} {F0 T F : Hp} {G : GD} {H : Hp} {r : Env2} {σ : L2.St} (S : Sta K F0 T F G H r σ) {b : Addr} {d0 d : D} (hG : G b = some d0) {o' : HO} (ho : Own K F (upd H b o') b d) : Sta K F0 T F (updG G b d) (upd H b o') r σ := by
  have f1 := S.bas.fg _ _ hG
  have f2 := S.bas.gt _ _ hG
  refine ⟨⟨S.bas.ff, S.bas.ft, fun a u e => ?_, fun a u e => ?_, fun a u e => ?_, fun a u e => ?_, fun a u e => ?_⟩, S.len, fun i s e => ?_, S.ap⟩
  · rw [upd_ne (ne_of_none e f1)]; exact S.bas.fh a u e
  · by_cases h : a = b
    · subst h; rw [updG_same] at e; cases e; exact ho
    · rw [updG_ne h] at e
      exact (S.bas.gh a u e).mono (Ex.refl _) fun o q => by rw [upd_ne h]; exact q
  · by_cases h : a = b
    · subst h; exact f1
    · rw [updG_ne h] at e; exact S.bas.fg a u e
  · by_cases h : a = b
    · subst h; exact f2
    · rw [updG_ne h] at e; exact S.bas.gt a u e
  · rw [upd_ne (ne_of_none e f2)]; exact S.bas.tk a u e
  · have q := S.sl i s e
    cases s with
    | no => trivial
    | sh d => exact q
    | own d =>
      obtain ⟨p, q1, q2, q3, q4, q5⟩ := q
      have hp : p ≠ b := fun z => by subst z; rw [q4] at hG; cases hG
      exact ⟨p, q1, q2.mono (Ex.refl _) (fun u hu => by rw [upd_ne hp]; exact hu), q3, by rw [updG_ne hp]; exact q4, q5⟩
/-- a new object of the open region -/
theorem Sta.gnew {K : PySem.W.Frag} {F0 T F : Hp} {G : GD} {H : Hp} {r : Env2} {σ : L2.St} (S : Sta K F0 T F G H r σ) {p : Addr} {d : D} (h : ResOk K T F G H r σ (.fr d) (.ref p)) : Sta K F0 T F (updG G p d) H r σ := by
  obtain ⟨p', e, h2, h3, h4, h5, h6⟩ := h
  cases e
  refine ⟨⟨S.bas.ff, S.bas.ft, S.bas.fh, fun a u e => ?_, fun a u e => ?_, fun a u e => ?_, S.bas.tk⟩, S.len, fun i s e => ?_, S.ap⟩
  · by_cases h : a = p
    · subst h; rw [updG_same] at e; cases e; exact h2
    · rw [updG_ne h] at e; exact S.bas.gh a u e
  · by_cases h : a = p
    · subst h; exact h3
    · rw [updG_ne h] at e; exact S.bas.fg a u e
  · by_cases h : a = p
    · subst h; exact h5
    · rw [updG_ne h] at e; exact S.bas.gt a u e
  · have q := S.sl i s e
    cases s with
    | no => trivial
    | sh d => exact q
    | own d =>
      obtain ⟨p', q1, q2, q3, q4, q5⟩ := q
      have hp : p' ≠ p := fun z => by subst z; exact h6 i d e q1
      exact ⟨p', q1, q2, q3, by rw [updG_ne hp]; exact q4, q5⟩
section
variable {X : Cy} {e e2 a b c o tg : Expr} {es : List Expr} {st : Stmt} {sts rest body orelse : List Stmt} {r : Env2} {G : GD} {pos tpos apos cpos p0 : Pos} {D0 : EndsD}
/-- a fresh result goes to the open region -/
theorem we_open {Q : Res → Env2 → GD → Prop} (h : WE X e r G fun x r1 G1 => ∃ d, x = .fr d ∧ ∀ p, G1 p = none → Q (.sh (.adr p)) r1 (updG G1 p d)) : WE X e r G Q := fun F0 T F H σ lk S =>
  (h F0 T F H σ lk S).mono fun v H1 ⟨x, r1, G1, F1, e1, S1, k1, d, hx, q⟩ => by
    subst hx
    obtain ⟨p, rfl, h2, h3, h4, h5, h6⟩ := id k1
    exact ⟨.sh (.adr p), r1, updG G1 p d, F1, e1, S1.gnew k1, rfl, q p h4⟩
/-- o[i] = e, o a list of the open region -/
theorem ws_setG (h : WE X e r G fun y r1 G1 => ∃ d r1', fz r1 y = some (d, r1') ∧ WE X o r1' G1 fun x r2 G2 => ∃ g, x = .sh (.adr g) ∧ WE X a r2 G2 fun z r3 G3 => ∃ k ds m, vw r3 z = some (.int k) ∧ G3 g = some (.lst ds) ∧ ixN ds.length k = some m ∧ D0.nx r3 (updG G3 g (.lst (ds.set m d))))
    (ha : ∀ v, assign (.Subscript o a tpos) X.env v = (do
      let ov ← holding [v] (eval o X.env)
      let iv ← holding [v, ov] (eval a X.env)
      standAt tpos
      holding [v, ov, iv] (setItem ov iv v)
      release [v, ov, iv] []) := by intro _; rfl)
    (hs : swapsWithSole [.Subscript o a tpos] e pos.line X.env = pure false := by rfl) (hw : swappedStores [.Subscript o a tpos] e X.env = pure none := by rfl)
    (h1 : (assignEach [.Subscript o a tpos] X.env).map (·.2) = [assign (.Subscript o a tpos) X.env] := by rfl) : WS X (.Assign [.Subscript o a tpos] e pos) r G D0 := fun F0 T F H σ lk S =>
  RunS.of (ps_asg peR (pg_sub peR peR set_list ha) hs hw h1) ((h F0 T F H σ lk S).mono fun v H1 ⟨y, r1, G1, F1, e1, S1, k1, d, r1', q1, q2⟩ => by
    obtain ⟨F1', e1', S1', rp⟩ := S1.fz k1 q1
    refine (q2 F0 T F1' H1 σ lk S1').mono fun vo H2 ⟨x, r2, G2, F2, e2, S2, k2, g, hx, q3⟩ => ?_
    subst hx
    cases (show vo = .ref g from k2)
    refine (q3 F0 T F2 H2 σ lk S2).mono fun vi H3 ⟨z, r3, G3, F3, e3, S3, k3, k, ds, m, q4, q5, q6, q7⟩ => ?_
    cases (S3.view k3 q4).int
    obtain ⟨vs, z1, z2⟩ := S3.bas.gh _ _ q5
    exact ⟨g, vs, k, m, rfl, rfl, z1, by rw [z2.length]; exact q6, r3, _, F3, S3.gput (d := .lst (ds.set m d)) q5 ⟨_, upd_same, z2.set m (Rep.mono (e2.trans e3) _ _ rp)⟩, q7⟩)
theorem mutG_end {id : String} {ds args : List D} {g : Addr} {F0 T F F1 H : Hp} {σ : L2.St} {us : List V} {Q : Res → Env2 → GD → Prop} (e1 : Ex F F1) (S : Sta X.K F0 T F1 G H r σ) (hg : G g = some (.lst ds)) (ha : RepL X.K F1 args us)
    (h : MutW X id ds args fun res ds' => Q (.sh res) r (updG G g (.lst ds'))) : mtU X id (.ref g) us H (PostE X.K F0 T F σ Q) := by
  obtain ⟨vs, h2, h3⟩ := S.bas.gh _ _ hg
  obtain ⟨rr, k1, k2⟩ := h F1 H g vs us h2 (S.bas.fg _ _ hg) S.bas.fh h3 ha
  refine ⟨_, MtR.post k1 _, k2, fun v' H' ⟨vs', res, ds', z1, z2, z3, z4⟩ => ?_⟩
  subst z1
  exact ⟨.sh res, _, _, F1, e1, S.gput (d := .lst ds') hg ⟨vs', upd_same, z3⟩, z2, z4⟩
theorem we_m1G {name : Str} {id : String} {Q : Res → Env2 → GD → Prop} (pa : PlainAttrs "list") (slot : Slot "list" name id) (hty : typeOf (.builtin id) = pure (.type "method_descriptor"))
    (h : WE X o r G fun x r1 G1 => ∃ g ds0, x = .sh (.adr g) ∧ G1 g = some (.lst ds0) ∧ WE X e r1 G1 fun y r2 G2 => ∃ d r3 ds, fz r2 y = some (d, r3) ∧ G2 g = some (.lst ds) ∧ MutW X id ds [d] fun res ds' => Q (.sh res) r3 (updG G2 g (.lst ds')))
    (hbase : attributeBase o name X.env (eval o X.env) = eval o X.env := by rfl)
    (hfew : ((backTo cpos (starEach [e] X.env)).all (fun x => !x.1) && (backToKw cpos (keywordEach [] X.env)).all (fun x => x.1.isSome) && decide (([e] : List Expr).length + ([] : List Keyword).length + (if ([] : List Keyword).isEmpty then 0 else 1) < 30)) = true := by rfl)
    (hline : (apos.endLine == cpos.line) = true := by rfl) (hs : starEach [e] X.env = (false, eval e X.env) :: starEach [] X.env := by rfl) (hplain : (backTo cpos (starEach [] X.env)).any (·.1) = false := by rfl) :
    WE X (.Call (.Attribute o name apos) [e] [] cpos) r G Q := fun F0 T F H σ lk S =>
  Run.of (pe_bm pa slot hty mtU_ok peR (pa_cons peR pa_nil hs) hbase hfew hline hs hplain) ((h F0 T F H σ lk S).mono fun v H1 ⟨x, r1, G1, F1, e1, S1, k1, g, ds0, hx, hg0, h1⟩ => by
    subst hx
    cases (show v = .ref g from k1)
    obtain ⟨vs, h2, h3⟩ := S1.bas.gh _ _ hg0
    refine ⟨.inl ⟨rfl, vs, .inl (.inl h2)⟩, (h1 F0 T F1 H1 σ lk S1).mono fun w H2 ⟨y, r2, G2, F2, e2, S2, k2, d, r3, ds, q1, q2, q3⟩ => ?_⟩
    obtain ⟨F3, e3, S3, rp⟩ := S2.fz k2 q1
    exact mutG_end ((e1.trans e2).trans e3) S3 q2 (.one rp) q3)
theorem we_m0G {name : Str} {id : String} {Q : Res → Env2 → GD → Prop} (pa : PlainAttrs "list") (slot : Slot "list" name id) (hty : typeOf (.builtin id) = pure (.type "method_descriptor"))
    (h : WE X o r G fun x r1 G1 => ∃ g ds, x = .sh (.adr g) ∧ G1 g = some (.lst ds) ∧ MutW X id ds [] fun res ds' => Q (.sh res) r1 (updG G1 g (.lst ds')))
    (hbase : attributeBase o name X.env (eval o X.env) = eval o X.env := by rfl) (hline : (apos.endLine == cpos.line) = true := by rfl) :
    WE X (.Call (.Attribute o name apos) [] [] cpos) r G Q := fun F0 T F H σ lk S =>
  Run.of (pe_bm0 pa slot hty mtU_ok peR hbase hline) ((h F0 T F H σ lk S).mono fun v H1 ⟨x, r1, G1, F1, e1, S1, k1, g, ds, hx, hg0, h1⟩ => by
    subst hx
    cases (show v = .ref g from k1)
    obtain ⟨vs, h2, h3⟩ := S1.bas.gh _ _ hg0
    exact ⟨.inl ⟨rfl, vs, .inl (.inl h2)⟩, mutG_end (args := []) e1 S1 hg0 rfl h1⟩)
/-! ### dicts are locked when they are frozen -/
theorem Sta.lock {K : PySem.W.Frag} {F0 T F : Hp} {G : GD} {H : Hp} {r : Env2} {σ : L2.St} (S : Sta K F0 T F G H r σ) {p : Addr} {ks : List Key} {ds : List D} {vs : List V} {o : Obj} (hp : H p = some (.dK (ks.zip vs))) (hl : ks.length = ds.length) (hv : RepL K F ds vs) (h1 : F p = none) (h2 : G p = none) (h3 : T p = none)
    (h4 : ∀ (i : Nat) (e : D), r[i]? = some (.own e) → σ[i]? ≠ some (some (.ref p))) :
    Ex F (upd F p (.frz o (.dK (ks.zip vs)))) ∧ Sta K F0 T (upd F p (.frz o (.dK (ks.zip vs)))) G (upd H p (.frz o (.dK (ks.zip vs)))) r σ ∧ Rep K (upd F p (.frz o (.dK (ks.zip vs)))) (.dic ks ds) (.ref p) := by
  have ef : Ex F (upd F p (.frz o (.dK (ks.zip vs)))) := Ex.new h1
  refine ⟨ef, ⟨(S.bas.put h1 h2 h3).frz upd_same h1 h2 h3, S.len, fun i s e => ?_, S.ap⟩, p, o, vs, rfl, upd_same, hl, RepL.mono ef _ _ hv⟩
  have q := S.sl i s e
  cases s with
  | no => trivial
  | sh d => obtain ⟨v, q1, q2⟩ := q; exact ⟨v, q1, Rep.mono ef _ _ q2⟩
  | own d =>
    obtain ⟨p', q1, q2, q3, q4, q5⟩ := q
    have hne : p' ≠ p := fun z => by subst z; exact h4 i d e q1
    exact ⟨p', q1, q2.mono ef fun u hu => by rw [upd_ne hne]; exact hu, by rw [upd_ne hne]; exact q3, q4, q5⟩
/-- a dict that was just made -/
theorem we_lock {Q : Res → Env2 → GD → Prop} (h : WE X e r G fun x r1 G1 => ∃ ks ds, x = .fr (.dic ks ds) ∧ Q (.sh (.dic ks ds)) r1 G1) : WE X e r G Q := fun F0 T F H σ lk S pins s I =>
  wpAny_mono (h F0 T F H σ lk S pins s I) (fun u s' ⟨v, H', I', rv, x, r1, G1, F1, e1, S1, k1, ks, ds, hx, q⟩ => by
    subst hx
    obtain ⟨p, rfl, ⟨vs, z1, z2, z3⟩, h3, h4, h5, h6⟩ := k1
    obtain ⟨o, I2⟩ := I'.lock z1 (by first | trivial | exact .inl rfl | decide)
    obtain ⟨ef, S2, rp⟩ := S1.lock (o := o) z1 z2 z3 h3 h4 h5 h6
    exact ⟨.ref p, _, I2, rv, .sh (.dic ks ds), r1, G1, _, e1.trans ef, S2, rp, q⟩) fun _ _ x => x
theorem Sta.lockSlot {K : PySem.W.Frag} {F0 T F : Hp} {G : GD} {H : Hp} {r : Env2} {σ : L2.St} (S : Sta K F0 T F G H r σ) {i : Nat} {ks : List Key} {ds : List D} (h : r[i]? = some (.own (.dic ks ds))) : ∃ p vs, H p = some (.dK (ks.zip vs)) ∧ σ[i]? = some (some (.ref p)) ∧ ∀ o,
    ∃ F', Ex F F' ∧ Sta K F0 T F' G (upd H p (.frz o (.dK (ks.zip vs)))) (r.set i (.sh (.dic ks ds))) σ ∧ Rep K F' (.dic ks ds) (.ref p) := by
  obtain ⟨p, h1, ⟨vs, z1, z2, z3⟩, h3, h4, h5⟩ := S.ownS h
  have hi : i < r.length := (List.getElem?_eq_some_iff.mp h).1
  refine ⟨p, vs, z1, h1, fun o => ?_⟩
  have S0 : Sta K F0 T F G H (r.set i .no) σ := by
    refine ⟨S.bas, by rw [List.length_set]; exact S.len, fun j s e => ?_, fun j k d e hjk ej ek => ?_⟩
    · by_cases hj : i = j
      · subst hj; rw [List.getElem?_set_self hi] at e; cases e; trivial
      · rw [List.getElem?_set_ne hj] at e; exact S.sl j s e
    · by_cases hj : i = j
      · subst hj; rw [List.getElem?_set_self hi] at ej; cases ej
      · by_cases hk : i = k
        · subst hk; rw [List.getElem?_set_self hi] at ek; cases ek
        · rw [List.getElem?_set_ne hj] at ej
          rw [List.getElem?_set_ne hk] at ek
          exact S.ap j k d e hjk ej ek
  obtain ⟨ef, S2, rp⟩ := S0.lock (o := o) z1 z2 z3 h3 h4 h5 fun j e hj zz => by
    by_cases hij : i = j
    · subst hij; rw [List.getElem?_set_self hi] at hj; cases hj
    · rw [List.getElem?_set_ne hij] at hj
      exact S.ap i j _ e hij h hj (h1.trans zz.symm)
  refine ⟨_, ef, ?_, rp⟩
  have := S2.set (i := i) (s := .sh (.dic ks ds)) (v := .ref p) (by rw [List.length_set]; exact hi) ⟨_, rfl, rp⟩ fun d z => nomatch z
  rw [List.set_set] at this
  have hσ : σ.set i (some (.ref p)) = σ := by
    refine List.ext_getElem? fun j => ?_
    by_cases hj : i = j
    · subst hj
      have hl : i < σ.length := by rw [← S.len]; exact hi
      rw [List.getElem?_set_self hl, h1]
    · rw [List.getElem?_set_ne hj]
  rw [hσ] at this
  exact this
/-- a dict of an own slot, as a result -/
theorem we_lockV {Q : Res → Env2 → GD → Prop} (h : WE X e r G fun x r1 G1 => ∃ i ks ds, x = .pk i ∧ r1[i]? = some (.own (.dic ks ds)) ∧ Q (.sh (.dic ks ds)) (r1.set i (.sh (.dic ks ds))) G1) : WE X e r G Q := fun F0 T F H σ lk S pins s I =>
  wpAny_mono (h F0 T F H σ lk S pins s I) (fun u s' ⟨v, H', I', rv, x, r1, G1, F1, e1, S1, k1, i, ks, ds, hx, hi, q⟩ => by
    subst hx
    obtain ⟨p, vs, z1, z2, hz⟩ := S1.lockSlot hi
    obtain ⟨k2, _⟩ := k1
    rw [k2] at z2; cases z2
    obtain ⟨o, I2⟩ := I'.lock z1 (by first | trivial | exact .inl rfl | decide)
    obtain ⟨F', ef, S2, rp⟩ := hz o
    exact ⟨.ref p, _, I2, rv, .sh (.dic ks ds), _, G1, F', e1.trans ef, S2, rp, q⟩) fun _ _ x => x
/-- a dict of an own slot, ahead of a block -/
theorem wb_lock (i : Nat) {ks : List Key} {ds : List D} (hi : r[i]? = some (.own (.dic ks ds))) (h : WB X sts (r.set i (.sh (.dic ks ds))) G D0) : WB X sts r G D0 := fun F0 T F H σ lk S pins s I => by
  obtain ⟨p, vs, z1, z2, hz⟩ := S.lockSlot hi
  obtain ⟨o, I2⟩ := I.lock z1 (by first | trivial | exact .inl rfl | decide)
  obtain ⟨F', ef, S2, rp⟩ := hz o
  exact h F0 T F' _ σ lk S2 pins s I2
end


/-! ### lists of ints -/
theorem okD_ints (ns : List Int) : okD 1 (.lst (ns.map D.int)) := fun d hd => by
  obtain ⟨n, _, rfl⟩ := List.mem_map.mp hd
  trivial
theorem okD_intsT (ns : List Int) : okD 1 (.tup (ns.map D.int)) := fun d hd => by
  obtain ⟨n, _, rfl⟩ := List.mem_map.mp hd
  trivial
theorem eqvAll_ints : ∀ ns ms : List Int, PyData.eqvAll (toPs (ns.map D.int)) (toPs (ms.map D.int)) = decide (ns = ms)
  | [], [] => rfl
  | [], m :: ms => by simp [toPs, PyData.eqvAll]
  | n :: ns, [] => by simp [toPs, PyData.eqvAll]
  | n :: ns, m :: ms => by
    show (PyData.eqv (.int n) (.int m) && PyData.eqvAll (toPs (ns.map D.int)) (toPs (ms.map D.int))) = _
    rw [eqvAll_ints ns ms]
    have : PyData.eqv (.int n) (.int m) = decide (n = m) := by
      show (n == m) = decide (n = m)
      by_cases h : n = m <;> simp [h]
    rw [this]
    by_cases h1 : n = m <;> by_cases h2 : ns = ms <;> simp [h1, h2]
theorem eqD_ints (ns ms : List Int) : eqD (.lst (ns.map D.int)) (.lst (ms.map D.int)) = decide (ns = ms) := eqvAll_ints ns ms
theorem eqD_intsT (ns ms : List Int) : eqD (.tup (ns.map D.int)) (.tup (ms.map D.int)) = decide (ns = ms) := eqvAll_ints ns ms
theorem eqD_refl {n : Nat} {d : D} (h : okD n d) : eqD d d = true := SeqAt.eqv_refl _ (okD.lay n d h)
theorem ints_get {ns : List Int} {k : Nat} {d : D} (h : (ns.map D.int)[k]? = some d) : ∃ n, ns[k]? = some n ∧ d = .int n := by
  rw [List.getElem?_map] at h
  cases e : ns[k]? with
  | none => rw [e] at h; cases h
  | some n => rw [e] at h; cases h; exact ⟨n, rfl, rfl⟩

section
variable {X : Cy} {e a b c o tg : Expr} {es : List Expr} {st : Stmt} {sts rest body orelse : List Stmt} {r : Env2} {G : GD} {pos tpos apos cpos p0 : Pos} {D0 : EndsD}
/-! ### a < b < c -/
theorem chain {op op' : CmpOp} {Q : Res → Env2 → GD → Prop} {F0 T F H : Hp} {σ : L2.St} (lk : Lk X F0 T) (S : Sta X.K F0 T F G H r σ)
    (h : WE X a r G fun x r1 G1 => WE X b r1 G1 fun y r2 G2 => ∃ da db, VwR r2 G2 x da ∧ VwR r2 G2 y db ∧ OpW X (compareOp op) da db fun z => ∃ k, z = .sh (.bl k) ∧ (k = true → WE X c r2 G2 fun w r3 G3 => ∃ db' dc, VwR r3 G3 y db' ∧ VwR r3 G3 w dc ∧ OpW X (compareOp op') db' dc fun u => Q u r3 G3) ∧ (k = false → Q (.sh (.bl false)) r2 G2)) :
    tChain (opU X (compareOp op)) (opU X (compareOp op')) (Run X a) (Run X b) (Run X c) σ H (PostE X.K F0 T F σ Q) := by
  refine (h F0 T F H σ lk S).mono fun va H1 ⟨x, r1, G1, F1, e1, S1, k1, h1⟩ => ?_
  obtain ⟨F1', e1', S1', hv⟩ := hold S1 k1
  refine (h1 F0 T F1' H1 σ lk S1').mono fun vb H2 ⟨y, r2, G2, F2, e2, S2, k2, da, db, q1, q2, q3⟩ => ?_
  obtain ⟨F2', e2', S2', hw⟩ := hold S2 k2
  obtain ⟨rr, h3, h4⟩ := q3 F0 T F2' G2 H2 r2 σ va vb S2' (hv F2' G2 H2 r2 da (e2.trans e2') S2' q1) (hw F2' G2 H2 r2 db (Ex.refl _) S2' q2)
  refine ⟨_, (show OpR X (compareOp op) (fun u w H Q' => rr u w H _ ∧ ∀ v H', _ → Q' v H') from fun pins s σ H x y v u Q' I rx ry ⟨q, m⟩ => wpAny_mono (h3 pins s σ H x y v u _ I rx ry q) (fun _ _ ⟨v, H', I', rl, q⟩ => ⟨v, H', I', rl, m v H' q⟩) fun _ _ x => x), h4, fun v H3 ⟨z, F3, e3, S3, k3, k, hz, m1, m2⟩ => ?_⟩
  subst hz
  refine ⟨k, k3, ?_⟩
  cases k with
  | false =>
    rw [if_neg Bool.false_ne_true]
    exact ⟨.sh (.bl false), r2, G2, F3, (((e1.trans e1').trans e2).trans e2').trans e3, S3, rfl, m2 rfl⟩
  | true =>
    rw [if_pos rfl]
    refine (m1 rfl F0 T F3 H3 σ lk S3).mono fun vc H4 ⟨w, r3, G3, F4, e4, S4, k4, db', dc, n1, n2, n3⟩ => ?_
    obtain ⟨rr2, h5, h6⟩ := n3 F0 T F4 G3 H4 r3 σ vb vc S4 (hw F4 G3 H4 r3 db' (e3.trans e4) S4 n1) (S4.viewR k4 n2)
    exact ⟨_, (show OpR X (compareOp op') (fun u w H Q' => rr2 u w H _ ∧ ∀ v H', _ → Q' v H') from fun pins s σ H x y v u Q' I rx ry ⟨q, m⟩ => wpAny_mono (h5 pins s σ H x y v u _ I rx ry q) (fun _ _ ⟨v, H', I', rl, q⟩ => ⟨v, H', I', rl, m v H' q⟩) fun _ _ x => x), h6, fun v H' ⟨z, F', l1, l2, l3, l4⟩ => ⟨z, r3, G3, F', (((((e1.trans e1').trans e2).trans e2').trans e3).trans e4).trans l1, l2, l3, l4⟩⟩
theorem we_chain {op op' : CmpOp} {Q : Res → Env2 → GD → Prop}
    (h : WE X a r G fun x r1 G1 => WE X b r1 G1 fun y r2 G2 => ∃ da db, VwR r2 G2 x da ∧ VwR r2 G2 y db ∧ OpW X (compareOp op) da db fun z => ∃ k, z = .sh (.bl k) ∧ (k = true → WE X c r2 G2 fun w r3 G3 => ∃ db' dc, VwR r3 G3 y db' ∧ VwR r3 G3 w dc ∧ OpW X (compareOp op') db' dc fun u => Q u r3 G3) ∧ (k = false → Q (.sh (.bl false)) r2 G2))
    (hm : lastMarks [op, op'] [b, c] = false := by with_unfolding_all rfl) : WE X (.Compare a [op, op'] [b, c] pos) r G Q := fun F0 T F H σ lk S => Run.of (pe_chain (opU_ok _) (opU_ok _) peR peR peR hm) (chain lk S h)
/-- lo <= x <= hi on ints -/
theorem we_chainI {op op' : CmpOp} {p q : Int → Int → Bool} {Q : Res → Env2 → GD → Prop} (ho : ∀ (i j : Int) (R : Res → Prop), R (.sh (.bl (p i j))) → OpW X (compareOp op) (.int i) (.int j) R) (ho' : ∀ (i j : Int) (R : Res → Prop), R (.sh (.bl (q i j))) → OpW X (compareOp op') (.int i) (.int j) R)
    (h : WE X a r G fun x r1 G1 => WE X b r1 G1 fun y r2 G2 => ∃ i j k, vw r2 x = some (.int i) ∧ vw r2 y = some (.int j) ∧ (p i j = true → WE X c r2 G2 fun w r3 G3 => r3 = r2 ∧ G3 = G2 ∧ vw r3 w = some (.int k)) ∧ Q (.sh (.bl (p i j && q j k))) r2 G2)
    (hm : lastMarks [op, op'] [b, c] = false := by with_unfolding_all rfl) : WE X (.Compare a [op, op'] [b, c] pos) r G Q :=
  we_chain (h.mono fun x r1 G1 h1 => h1.mono fun y r2 G2 ⟨i, j, k, q1, q2, q3, q4⟩ => ⟨_, _, .inl q1, .inl q2, ho i j _ ⟨p i j, rfl, fun hp => (q3 hp).mono fun w r3 G3 ⟨m1, m2, m3⟩ => ⟨_, _, .inl (by rw [m1]; exact q2), .inl m3, ho' j k _ (by subst m1 m2; rw [hp, Bool.true_and] at q4; exact q4)⟩, fun hp => by rw [hp, Bool.false_and] at q4; exact q4⟩⟩) hm
theorem wt_chainI {op op' : CmpOp} {p q : Int → Int → Bool} {Q : Bool → Env2 → GD → Prop} (ho : ∀ (i j : Int) (R : Res → Prop), R (.sh (.bl (p i j))) → OpW X (compareOp op) (.int i) (.int j) R) (ho' : ∀ (i j : Int) (R : Res → Prop), R (.sh (.bl (q i j))) → OpW X (compareOp op') (.int i) (.int j) R)
    (h : WE X a r G fun x r1 G1 => WE X b r1 G1 fun y r2 G2 => ∃ i j k, vw r2 x = some (.int i) ∧ vw r2 y = some (.int j) ∧ (p i j = true → WE X c r2 G2 fun w r3 G3 => r3 = r2 ∧ G3 = G2 ∧ vw r3 w = some (.int k)) ∧ Q (p i j && q j k) r2 G2)
    (hm : lastMarks [op, op'] [b, c] = false := by with_unfolding_all rfl) : WT X (.Compare a [op, op'] [b, c] pos) r G Q := fun F0 T F H σ lk S =>
  RunT.of (pt_chain (opU_ok _) (opU_ok _) peR peR peR hm) (by
    have base := we_chainI (pos := pos) (Q := isB Q) ho ho' (h.mono fun x r1 G1 h1 => h1.mono fun y r2 G2 ⟨i, j, k, q1, q2, q3, q4⟩ => ⟨i, j, k, q1, q2, q3, ⟨_, rfl, q4⟩⟩) hm
    have z := chain (Q := isB Q) lk S (h.mono fun x r1 G1 h1 => h1.mono fun y r2 G2 ⟨i, j, k, q1, q2, q3, q4⟩ => ⟨_, _, .inl q1, .inl q2, ho i j _ ⟨p i j, rfl, fun hp => (q3 hp).mono fun w r3 G3 ⟨m1, m2, m3⟩ => ⟨_, _, .inl (by rw [m1]; exact q2), .inl m3, ho' j k _ (by subst m1 m2; rw [hp, Bool.true_and] at q4; exact ⟨_, rfl, q4⟩)⟩, fun hp => by rw [hp, Bool.false_and] at q4; exact ⟨_, rfl, q4⟩⟩⟩)
    refine Run.mono z fun va H1 z1 => Run.mono z1 fun vb H2 ⟨rr, h3, h4⟩ => ⟨_, (show OpR X (compareOp op) (fun u w H Q' => rr u w H _ ∧ ∀ v H', _ → Q' v H') from fun pins s σ H x y v u Q' I rx ry ⟨q, m⟩ => wpAny_mono (h3 pins s σ H x y v u _ I rx ry q) (fun _ _ ⟨v, H', I', rl, q⟩ => ⟨v, H', I', rl, m v H' q⟩) fun _ _ x => x), h4, fun v H3 ⟨k, hk, hz⟩ => ⟨k, hk, ?_⟩⟩
    cases k with
    | false => rw [if_neg Bool.false_ne_true] at hz ⊢; exact postB hz
    | true =>
      rw [if_pos rfl] at hz ⊢
      refine Run.mono hz fun vc H4 ⟨rr2, h5, h6⟩ => ⟨_, (show OpR X (compareOp op') (fun u w H Q' => rr2 u w H _ ∧ ∀ v H', _ → Q' v H') from fun pins s σ H x y v u Q' I rx ry ⟨q, m⟩ => wpAny_mono (h5 pins s σ H x y v u _ I rx ry q) (fun _ _ ⟨v, H', I', rl, q⟩ => ⟨v, H', I', rl, m v H' q⟩) fun _ _ x => x), h6, fun v H' z' => postB z'⟩)

/-! ### tests joined -/
theorem ww_andB {Q : Bool → Env2 → GD → Prop} (h : WT X a r G fun c1 r1 G1 => ∃ c2, (c1 = true → WW X (.BoolOp .And (b :: es) pos) r1 G1 fun d r2 G2 => d = c2 ∧ r2 = r1 ∧ G2 = G1) ∧ Q (c1 && c2) r1 G1) : WW X (.BoolOp .And (a :: b :: es) pos) r G Q :=
  ww_and (h.mono fun c1 r1 G1 ⟨c2, h1, h2⟩ => ⟨fun hc => fun F0 T F H σ lk S w pins s I => wpAny_mono (h1 hc F0 T F H σ lk S w pins s I) (fun _ _ ⟨H', I', r', G', F', k1, k2, k3, k4, k5⟩ => ⟨H', I', r', G', F', k1, k2, by subst k3 k4 k5; rw [hc, Bool.true_and] at h2; exact h2⟩) fun _ _ x => x, fun hc => by rw [hc, Bool.false_and] at h2; exact h2⟩)
theorem ww_orB {Q : Bool → Env2 → GD → Prop} (h : WT X a r G fun c1 r1 G1 => ∃ c2, (c1 = false → WW X (.BoolOp .Or (b :: es) pos) r1 G1 fun d r2 G2 => d = c2 ∧ r2 = r1 ∧ G2 = G1) ∧ Q (c1 || c2) r1 G1) : WW X (.BoolOp .Or (a :: b :: es) pos) r G Q :=
  ww_or (h.mono fun c1 r1 G1 ⟨c2, h1, h2⟩ => ⟨fun hc => fun F0 T F H σ lk S w pins s I => wpAny_mono (h1 hc F0 T F H σ lk S w pins s I) (fun _ _ ⟨H', I', r', G', F', k1, k2, k3, k4, k5⟩ => ⟨H', I', r', G', F', k1, k2, by subst k3 k4 k5; rw [hc, Bool.false_or] at h2; exact h2⟩) fun _ _ x => x, fun hc => by rw [hc, Bool.true_or] at h2; exact h2⟩)

/-! ### defs by name -/
structure Cal (P : Program) (w : World) (K : PySem.W.Frag) (mg : Str → Option Value) (base : Heap) (x : Str) (k : Nat) (ps : List Str) (sp : FSp) : Prop where
  ex : ∃ (f : Addr) (fd : FuncData), FnOk P w K mg base (CX P w) k f fd ps (spD K sp) ∧ mg x = some (.ref f) ∧ PySem.W.keepIn K (.ref f) = true ∧ Binds K fd ps []
theorem we_cal {x : Str} {k j : Nat} {ps : List Str} {sp : FSp} {Q : Res → Env2 → GD → Prop} (tk : X.Tk) (C : Cal X.prog X.w X.K X.mg X.base x k ps sp) (hr : Room j X.A) (hg : Gl X x) (h : WA X (e :: es) r G fun ds r1 G1 => sp ds G1 (fun z G2 => Q z r1 G2) (fun x G2 => X.QX x r1 G2)) (hj : k ≤ j := by omega)
    (hdb : (x == ("__debug__" : Str)) = false := by decide) (he : starEach (e :: es) X.env = (false, eval e X.env) :: starEach es X.env := by rfl) (hpl : (backTo pos (starEach es X.env)).any (·.1) = false := by rfl) : WE X (.Call (.Name x p0) (e :: es) [] pos) r G Q := by
  obtain ⟨f, fd, h1, h2, h3, h4⟩ := C.ex
  exact we_call tk h1 (hr.mono hj) hg h2 h3 h4 h hdb he hpl
theorem we_cal0 {x : Str} {k j : Nat} {ps : List Str} {sp : FSp} {Q : Res → Env2 → GD → Prop} (tk : X.Tk) (C : Cal X.prog X.w X.K X.mg X.base x k ps sp) (hr : Room j X.A) (hg : Gl X x) (h : sp [] G (fun z G2 => Q z r G2) (fun x G2 => X.QX x r G2)) (hj : k ≤ j := by omega)
    (hdb : (x == ("__debug__" : Str)) = false := by decide) : WE X (.Call (.Name x p0) [] [] pos) r G Q := by
  obtain ⟨f, fd, h1, h2, h3, h4⟩ := C.ex
  exact we_call0 tk h1 (hr.mono hj) hg h2 h3 h4 h hdb

/-! ### instances with slots -/
structure PropD (P : Program) (w : World) (K : PySem.W.Frag) (mg : Str → Option Value) (base : Heap) (C : Addr) (f : Str) (k : Nat) (sp : FSp) : Prop where
  ex : ∃ (p g : Addr) (fd : FuncData), PySem.W.findIn K (.ref C) f = some (some (.ref p)) ∧ PySem.W.specialIn K (.ref p) "__get__" = some (some (.builtin "property.__get__")) ∧ PySem.W.takesIn K (.ref p) = some true ∧ (∃ rest, PySem.W.recIn K p "property" = some (.ref g :: rest)) ∧
    FnOk P w K mg base (CX P w) k g fd ["self"] (spD K sp) ∧ Binds K fd ["self"] []
theorem fnr {P : Program} {w : World} {K : PySem.W.Frag} {mg : Str → Option Value} {base : Heap} {CX : CXT} {k : Nat} {f : Addr} {fd : FuncData} {ps : List Str} {sp : Sp} (F : FnOk P w K mg base CX k f fd ps sp) (hb : Binds K fd ps []) : FnR P w K mg base CX k f sp :=
  (F.raw hb .nil).imp fun vs H Q E h => by rw [List.append_nil]; exact h
/-- a promise met from a state, no exception leaves -/
theorem spD_of0 {F0 T F F1 H : Hp} {σ : L2.St} {sp : FSp} {ds : List D} {vs : List V} {Q : Res → Env2 → GD → Prop} (S : Sta X.K F0 T F1 G H r σ) (e1 : Ex F F1) (ha : RepL X.K F1 ds vs) (h : sp ds G (fun z G2 => Q z r G2) (fun _ _ => False)) : spD X.K sp vs H (PostE X.K F0 T F σ Q) (fun _ _ _ => False) :=
  ⟨F1, G, ds, _, _, S.bas.fh, S.bas.gh, S.bas.fg, ha, h, fun x G' v H' F' hp B rt => ⟨x, r, G', F', e1.trans B.ff, S.after B, ResOk.after S B rt, hp⟩, fun x cls d G' H' F' hp B ex => hp⟩
theorem we_prop {f : Str} {C : Addr} {k j : Nat} {sp : FSp} {Q : Res → Env2 → GD → Prop} (c : SlX.SCls X.K C) (p : PropD X.prog X.w X.K X.mg X.base C f k sp) (hr : Room j X.A) (h : WE X e r G fun x r1 G1 => ∃ ds, vw r1 x = some (.ins C ds) ∧ sp [.ins C ds] G1 (fun z G2 => Q z r1 G2) (fun _ _ => False)) (hj : k + 1 ≤ j := by omega)
    (hb : attributeBase e f X.env (eval e X.env) = eval e X.env := by rfl) : WE X (.Attribute e f pos) r G Q := fun F0 T F H σ lk S => by
  obtain ⟨pa, g, fd, h1, h2, h3, h4, h5, h6⟩ := p.ex
  refine Run.of (SlX.pe_propSl (E := fun _ _ _ => False) peR c h1 h2 h3 h4 (fnr h5 h6) (hr.mono hj) (fun _ _ _ _ ⟨_, _, _, _, _, _, _, _, _, _, _, _, z⟩ => z) hb) ((h F0 T F H σ lk S).mono fun v H1 ⟨x, r1, G1, F1, e1, S1, k1, ds, q1, q2⟩ => ?_)
  obtain ⟨F1', e1', S1', hv⟩ := hold S1 k1
  have vv := hv F1' G1 H1 r1 _ (Ex.refl _) S1' (.inl q1)
  have rp : Rep X.K F1' (.ins C ds) v := by
    rcases vv with z | ⟨_, _, z⟩
    · exact z
    · exact z.elim
  obtain ⟨a, dx, vs, rfl, z1, z2⟩ := vv.ins S1'.bas.fh
  exact ⟨a, dx, vs.map some, rfl, z1, spD_of0 S1' (e1.trans e1') (.one rp) q2⟩
/-- a slot is read -/
theorem we_fld {f : Str} {C p : Addr} (i : Nat) {Q : Res → Env2 → GD → Prop} (c : SlX.SCls X.K C) (t : SlX.Slot1 X.K C f p i) (h : WE X e r G fun x r1 G1 => ∃ ds d, vw r1 x = some (.ins C ds) ∧ ds[i]? = some d ∧ Q (.sh d) r1 G1)
    (hb : attributeBase e f X.env (eval e X.env) = eval e X.env := by rfl) : WE X (.Attribute e f pos) r G Q := fun F0 T F H σ lk S => by
  refine Run.of (SlX.pe_sl peR hb) ((h F0 T F H σ lk S).mono fun v H1 ⟨x, r1, G1, F1, e1, S1, k1, ds, d, q1, q2, q3⟩ => ?_)
  obtain ⟨a, dx, vs, rfl, z1, z2⟩ := (S1.view k1 q1).ins S1.bas.fh
  obtain ⟨w, y1, y2⟩ := z2.get q2
  exact ⟨a, C, dx, p, vs.map some, i, w, rfl, z1, c, t, by rw [List.getElem?_map, y1]; rfl, .sh d, r1, G1, F1, e1, S1, y2, q3⟩
structure MethD (P : Program) (w : World) (K : PySem.W.Frag) (mg : Str → Option Value) (base : Heap) (C : Addr) (m : Str) (k : Nat) (ps : List Str) (sp : FSp) : Prop where
  ex : ∃ (g : Addr) (fd : FuncData), Meth K C m g ∧ FnOk P w K mg base (CX P w) k g fd ps (spD K sp) ∧ Binds K fd ps []
/-- as HandS.Slots' own, the wish by the slots -/
theorem run_fnRS {X : Cx} {CX : CXT} {k : Nat} {f : Addr} {sp : Sp} {E : L2.St → XK} {pins : List (Addr × Obj)} {σ : L2.St} {H : Hp} {s : Shared} {Q : VK} {us : List Value} {vs : List V} (F : FnR X.prog X.w X.K X.mg X.base CX k f sp) (hr : Room k X.A) (hx : PassesAt CX X σ (E σ)) (I : Inv X pins σ H s) (r : Vals vs us) (q : sp vs H Q (E σ)) :
    wpAny (model X.prog X.w) X.A (call (.ref f) us) (EP X pins σ Q) X.xe s := by
  refine wpAny_call (codeAny_mono (F X.A X.stack s H us vs Q (E σ) hr I.env0 r q) fun r s' hq => ?_)
  cases r with
  | error e => exact hx pins H s e s' I hq
  | ok fl =>
    cases fl with
    | ret u => exact I.after hq
    | next => exact False.elim hq
    | brk => exact False.elim hq
    | cont => exact False.elim hq
def tMethSlS (C : Addr) (sp : Sp) (E : L2.St → XK) (ta : TE) (t : TA) : TE := fun σ H Q => ta σ H fun x H1 => ∃ a dx vs, x = .ref a ∧ SlX.Slt H1 a C dx vs ∧ t σ H1 fun ws H2 => sp (x :: ws) H2 Q (E σ)
theorem pe_methSlS {X : Cx} {m : Str} {ta : TE} {t : TA} {CX : CXT} {k : Nat} {C g : Addr} {sp : Sp} {E : L2.St → XK} {pl : Sem Bool} (he : PE X o ta) (c : SlX.SCls X.K C) (hm : Meth X.K C m g) (F : FnR X.prog X.w X.K X.mg X.base CX k g sp) (hr : Room k X.A) (hx : ∀ σ, PassesAt CX X σ (E σ)) (ha : PA X (e :: es) t)
    (hst : starEach (e :: es) X.env = (false, eval e X.env) :: starEach es X.env := by rfl) (hpl : (backTo pos (starEach es X.env)).any (·.1) = false := by rfl)
    (ht : eval (.Call (.Attribute o m apos) (e :: es) [] pos) X.env = (do
      let ov ← eval o X.env
      standAt apos.atName
      let (f, first) ← holding [ov] (getMethod ov m pl)
      callWith pos f first (backTo pos (starEach (e :: es) X.env)) (backToKw pos (keywordEach [] X.env))) := by rfl) :
    PE X (.Call (.Attribute o m apos) (e :: es) [] pos) (tMethSlS C sp E ta t) := by
  refine ⟨fun pins s σ H Q I h => ?_⟩
  refine PySem.W.methodCall_KW (pl := pl) (thn (he.run pins s σ H _ I h) fun u s1 ⟨x, H1, I1, rx, a, dx, vs, ex, hsl, q⟩ => ?_) ht
  subst ex
  obtain rfl : u = Value.ref a := rx
  refine SlX.getmethsl_ok I1 hsl c hm ?_
  refine PySem.W.callWith_K (first := [.ref a]) (h₀ := X.base) I.ok.mod.kin hm.kp (thn (ha.run pos pins s1 σ H1 _ I1 q) fun us s2 ⟨ws, H2, I2, r, q2⟩ => ⟨I2.kIn, ?_⟩) hst hpl
  exact run_fnRS (us := .ref a :: us) (vs := .ref a :: ws) F hr (hx σ) I2 (.cons rfl r) q2
theorem pe_methSl0S {X : Cx} {m : Str} {ta : TE} {CX : CXT} {k : Nat} {C g : Addr} {sp : Sp} {E : L2.St → XK} {pl : Sem Bool} (he : PE X o ta) (c : SlX.SCls X.K C) (hm : Meth X.K C m g) (F : FnR X.prog X.w X.K X.mg X.base CX k g sp) (hr : Room k X.A) (hx : ∀ σ, PassesAt CX X σ (E σ))
    (ht : eval (.Call (.Attribute o m apos) [] [] pos) X.env = (do
      let ov ← eval o X.env
      standAt apos.atName
      let (f, first) ← holding [ov] (getMethod ov m pl)
      callWith pos f first (backTo pos (starEach [] X.env)) (backToKw pos (keywordEach [] X.env))) := by rfl) :
    PE X (.Call (.Attribute o m apos) [] [] pos) (tMethSlS C sp E ta tNil) := by
  refine ⟨fun pins s σ H Q I h => ?_⟩
  refine PySem.W.methodCall_KW (pl := pl) (thn (he.run pins s σ H _ I h) fun u s1 ⟨x, H1, I1, rx, a, dx, vs, ex, hsl, q⟩ => ?_) ht
  subst ex
  obtain rfl : u = Value.ref a := rx
  refine SlX.getmethsl_ok I1 hsl c hm ?_
  exact PySem.W.callWith_K0 (first := [.ref a]) I1.kIn hm.kp (run_fnRS (us := [.ref a]) (vs := [.ref a]) F hr (hx σ) I1 (.cons rfl .nil) q)
theorem we_meth0 {m : Str} {C : Addr} {k j : Nat} {ps : List Str} {sp : FSp} {pl : Sem Bool} {Q : Res → Env2 → GD → Prop} (tk : X.Tk) (c : SlX.SCls X.K C) (p : MethD X.prog X.w X.K X.mg X.base C m k ps sp) (hr : Room j X.A) (h : WE X o r G fun x r1 G1 => ∃ ds, vw r1 x = some (.ins C ds) ∧ sp [.ins C ds] G1 (fun z G2 => Q z r1 G2) (fun x G2 => X.QX x r1 G2)) (hj : k ≤ j := by omega)
    (ht : eval (.Call (.Attribute o m apos) [] [] pos) X.env = (do
      let ov ← eval o X.env
      standAt apos.atName
      let (f, first) ← holding [ov] (getMethod ov m pl)
      callWith pos f first (backTo pos (starEach [] X.env)) (backToKw pos (keywordEach [] X.env))) := by rfl) : WE X (.Call (.Attribute o m apos) [] [] pos) r G Q := fun F0 T F H σ lk S => by
  obtain ⟨g, fd, h1, h2, h3⟩ := p.ex
  refine Run.of (pe_methSl0S (pl := pl) peR c h1 (fnr h2 h3) (hr.mono hj) (fun σ => passAt tk σ) ht) ((h F0 T F H σ lk S).mono fun v H1 ⟨x, r1, G1, F1, e1, S1, k1, ds, q1, q2⟩ => ?_)
  obtain ⟨F1', e1', S1', hv⟩ := hold S1 k1
  have vv := hv F1' G1 H1 r1 _ (Ex.refl _) S1' (.inl q1)
  have rp : Rep X.K F1' (.ins C ds) v := by
    rcases vv with z | ⟨_, _, z⟩
    · exact z
    · exact z.elim
  obtain ⟨a, dx, vs, rfl, z1, z2⟩ := vv.ins S1'.bas.fh
  exact ⟨a, dx, vs.map some, rfl, z1, spD_of lk S1' (e1.trans e1') (.one rp) q2⟩
theorem we_meth {m : Str} {C : Addr} {k j : Nat} {ps : List Str} {sp : FSp} {pl : Sem Bool} {Q : Res → Env2 → GD → Prop} (tk : X.Tk) (c : SlX.SCls X.K C) (p : MethD X.prog X.w X.K X.mg X.base C m k ps sp) (hr : Room j X.A) (h : WE X o r G fun x r1 G1 => ∃ ds, vw r1 x = some (.ins C ds) ∧ WA X (e :: es) r1 G1 fun as r2 G2 => sp (.ins C ds :: as) G2 (fun z G3 => Q z r2 G3) (fun x G3 => X.QX x r2 G3)) (hj : k ≤ j := by omega)
    (hst : starEach (e :: es) X.env = (false, eval e X.env) :: starEach es X.env := by rfl) (hpl : (backTo pos (starEach es X.env)).any (·.1) = false := by rfl)
    (ht : eval (.Call (.Attribute o m apos) (e :: es) [] pos) X.env = (do
      let ov ← eval o X.env
      standAt apos.atName
      let (f, first) ← holding [ov] (getMethod ov m pl)
      callWith pos f first (backTo pos (starEach (e :: es) X.env)) (backToKw pos (keywordEach [] X.env))) := by rfl) : WE X (.Call (.Attribute o m apos) (e :: es) [] pos) r G Q := fun F0 T F H σ lk S => by
  obtain ⟨g, fd, h1, h2, h3⟩ := p.ex
  refine Run.of (pe_methSlS (pl := pl) peR c h1 (fnr h2 h3) (hr.mono hj) (fun σ => passAt tk σ) paR hst hpl ht) ((h F0 T F H σ lk S).mono fun v H1 ⟨x, r1, G1, F1, e1, S1, k1, ds, q1, q2⟩ => ?_)
  obtain ⟨F1', e1', S1', hv⟩ := hold S1 k1
  have vv := hv F1' G1 H1 r1 _ (Ex.refl _) S1' (.inl q1)
  have rp : Rep X.K F1' (.ins C ds) v := by
    rcases vv with z | ⟨_, _, z⟩
    · exact z
    · exact z.elim
  obtain ⟨a, dx, vs, rfl, z1, z2⟩ := vv.ins S1'.bas.fh
  refine ⟨a, dx, vs.map some, rfl, z1, (q2 F0 T F1' H1 σ lk S1').mono fun ws H2 ⟨as, r2, G2, F2, e2, S2, k2, q3⟩ => ?_⟩
  exact spD_of (ds := .ins C ds :: as) lk S2 ((e1.trans e1').trans e2) ⟨_, _, rfl, Rep.mono e2 _ _ rp, k2⟩ q3

/-! ### isinstance -/
/-- the class of data, as far as isinstance asks -/
def tyD : D → Option Value
  | .non => some (.type "NoneType")
  | .bl _ => some (.type "bool")
  | .int _ => some (.type "int")
  | .str _ => some (.type "str")
  | .tup _ => some (.type "tuple")
  | .lst _ => some (.type "list")
  | .dic _ _ => some (.type "dict")
  | _ => none
theorem tyX_of {K : PySem.W.Frag} {F H : Hp} {d : D} {v : V} {t : Value} (ex : Ex F H) (h : Vw K F H d v) (e : tyD d = some t) : TyX K H v t := by
  cases d with
  | non => cases e; cases h.non; exact .base .non
  | bl b => cases e; cases h.bl; exact .base (.bl b)
  | int b => cases e; cases h.int; exact .base (.int b)
  | str b => cases e; cases h.str; exact .base (.str b)
  | tup ds =>
    cases e
    obtain ⟨a, vs, rfl, z1, _⟩ := h.tup ex
    rcases z1 with (z | ⟨ob, z⟩) | ⟨ob, its, n, z, zc, _⟩
    · exact .base (.tup z)
    · exact .fTuple z
    · exact .kTuple z zc
  | lst ds =>
    cases e
    obtain ⟨a, vs, rfl, z1, _⟩ := h.lst ex
    rcases z1 with z | ⟨ob, z⟩
    · exact .base (.lst z)
    · exact .base (.frz z)
  | dic ks ds =>
    cases e
    obtain ⟨a, vs, rfl, z1, _⟩ := h.dic ex
    rcases z1 with z | ⟨ob, z⟩
    · exact .base (.dK z)
    · exact .fDict z
  | ins C ds => cases e
  | adr a => cases e
  | obj _ _ _ => cases e
  | slo _ _ _ _ => cases e
  | xdo _ _ => cases e
  | scr _ => cases e
  | tab _ => cases e
  | hob _ => cases e
/-- isinstance(x, T), T a built-in class -/
theorem we_isi {x y : Str} {n : String} {py : Pos} {Q : Res → Env2 → GD → Prop} (hg : Gl X x) (hm : X.mg x = none) (hv : bootBuiltins x = some (.builtin "isinstance")) (hg2 : Gl X y) (hm2 : X.mg y = none) (hv2 : bootBuiltins y = some (.type n))
    (h : WE X a r G fun z r1 G1 => ∃ d t c, VwR r1 G1 z d ∧ tyD d = some t ∧ PySem.W.kitOne X.K t (.type n) = some c ∧ Q (.sh (.bl c)) r1 G1)
    (hn : x ≠ "__name__" := by decide) (hdb : (x == ("__debug__" : Str)) = false := by decide) (hn2 : y ≠ "__name__" := by decide) (hdb2 : (y == ("__debug__" : Str)) = false := by decide)
    (he : starEach [a, .Name y py] X.env = (false, eval a X.env) :: starEach [.Name y py] X.env := by rfl) (he2 : starEach [.Name y py] X.env = (false, eval (.Name y py) X.env) :: starEach [] X.env := by rfl) (hpl : (backTo pos (starEach [.Name y py] X.env)).any (·.1) = false := by rfl) :
    WE X (.Call (.Name x p0) [a, .Name y py] [] pos) r G Q := fun F0 T F H σ lk S =>
  Run.of (pe_callB call_isi hg hm hv (pa_cons peR (pa_cons (pe_bltn (v := .ty n) hg2 hm2 hv2 rfl hn2 hdb2) pa_nil he2) he) hn hdb he hpl) ((h F0 T F H σ lk S).mono fun v H1 ⟨z, r1, G1, F1, e1, S1, k1, d, t, c, q1, q2, q3, q4⟩ =>
    ⟨v, .ty n, t, .type n, c, rfl, .ty n, tyX_of S1.bas.fh (S1.viewR k1 q1) q2, q3, .sh (.bl c), r1, G1, F1, e1, S1, rfl, q4⟩)
/-- isinstance(x, C), C a class of the module; x no instance -/
theorem we_isiC {x y : Str} {C : Addr} {py : Pos} {Q : Res → Env2 → GD → Prop} (hg : Gl X x) (hm : X.mg x = none) (hv : bootBuiltins x = some (.builtin "isinstance")) (hg2 : Gl X y) (hm2 : X.mg y = some (.ref C))
    (h : WE X a r G fun z r1 G1 => ∃ d t c, VwR r1 G1 z d ∧ tyD d = some t ∧ PySem.W.kitOne X.K t (.ref C) = some c ∧ Q (.sh (.bl c)) r1 G1)
    (hn : x ≠ "__name__" := by decide) (hdb : (x == ("__debug__" : Str)) = false := by decide) (hdb2 : (y == ("__debug__" : Str)) = false := by decide)
    (he : starEach [a, .Name y py] X.env = (false, eval a X.env) :: starEach [.Name y py] X.env := by rfl) (he2 : starEach [.Name y py] X.env = (false, eval (.Name y py) X.env) :: starEach [] X.env := by rfl) (hpl : (backTo pos (starEach [.Name y py] X.env)).any (·.1) = false := by rfl) :
    WE X (.Call (.Name x p0) [a, .Name y py] [] pos) r G Q := fun F0 T F H σ lk S =>
  Run.of (pe_callB call_isi hg hm hv (pa_cons peR (pa_cons (pe_glob (v := .ref C) hg2 hm2 rfl hdb2) pa_nil he2) he) hn hdb he hpl) ((h F0 T F H σ lk S).mono fun v H1 ⟨z, r1, G1, F1, e1, S1, k1, d, t, c, q1, q2, q3, q4⟩ =>
    ⟨v, .ref C, t, .ref C, c, rfl, .own C, tyX_of S1.bas.fh (S1.viewR k1 q1) q2, q3, .sh (.bl c), r1, G1, F1, e1, S1, rfl, q4⟩)
/-- .. x an instance with slots -/
theorem we_isiI {x y : Str} {C C' : Addr} {py : Pos} {Q : Res → Env2 → GD → Prop} (hg : Gl X x) (hm : X.mg x = none) (hv : bootBuiltins x = some (.builtin "isinstance")) (hg2 : Gl X y) (hm2 : X.mg y = some (.ref C')) (cc : SlX.SCls X.K C) (ci : SlX.SIsi X.K C)
    (h : WE X a r G fun z r1 G1 => ∃ ds c, vw r1 z = some (.ins C ds) ∧ PySem.W.kitOne X.K (.ref C) (.ref C') = some c ∧ Q (.sh (.bl c)) r1 G1)
    (hn : x ≠ "__name__" := by decide) (hdb : (x == ("__debug__" : Str)) = false := by decide) (hdb2 : (y == ("__debug__" : Str)) = false := by decide)
    (he : starEach [a, .Name y py] X.env = (false, eval a X.env) :: starEach [.Name y py] X.env := by rfl) (he2 : starEach [.Name y py] X.env = (false, eval (.Name y py) X.env) :: starEach [] X.env := by rfl) (hpl : (backTo pos (starEach [.Name y py] X.env)).any (·.1) = false := by rfl) :
    WE X (.Call (.Name x p0) [a, .Name y py] [] pos) r G Q := fun F0 T F H σ lk S =>
  Run.of (pe_callB (SlX.call_isiSl (.ref C')) hg hm hv (pa_cons peR (pa_cons (pe_glob (v := .ref C') hg2 hm2 rfl hdb2) pa_nil he2) he) hn hdb he hpl) ((h F0 T F H σ lk S).mono fun v H1 ⟨z, r1, G1, F1, e1, S1, k1, ds, c, q1, q3, q4⟩ => by
    obtain ⟨ad, dx, vs, rfl, z1, z2⟩ := (S1.view k1 q1).ins S1.bas.fh
    exact ⟨ad, C, dx, vs.map some, .ref C', c, rfl, rfl, fun w hw => hw, z1, cc, ci, q3, .sh (.bl c), r1, G1, F1, e1, S1, rfl, q4⟩)

/-! ### C(..) of a class with slots: the new instance is frozen data behind __init__ -/
abbrev FSpI := List D → GD → (List D → GD → Prop) → (Exn → GD → Prop) → Prop
def spI (K : PySem.W.Frag) (C : Addr) (f : FSpI) : Sp := fun vs H Q E => ∃ (x dx : Addr) (us : List V) (F : Hp) (G : GD) (ds : List D) (post : List D → GD → Prop) (px : Exn → GD → Prop), vs = .ref x :: us ∧ H x = some (.ins C dx []) ∧ H dx = some (.own x) ∧ dx ≠ x ∧ F x = none ∧ F dx = none ∧ G x = none ∧ G dx = none ∧
  Ex F H ∧ (∀ a d, G a = some d → Own K F H a d) ∧ (∀ a o, G a = some o → F a = none) ∧ RepL K F ds us ∧ f ds G post px ∧
  (∀ ys G' H' F', post ys G' → Bas K F (fun a => if a = x ∨ a = dx then none else Tof G H a) F' G' H' → Rep K F' (.ins C ys) (.ref x) → Q .non H') ∧
  ∀ xn cls d G' H' F', px xn G' → Bas K F (fun a => if a = x ∨ a = dx then none else Tof G H a) F' G' H' → ExOk K F' cls d xn → E cls d H'
structure MakeD (P : Program) (w : World) (K : PySem.W.Frag) (mg : Str → Option Value) (base : Heap) (x : Str) (C : Addr) (k : Nat) (ps : List Str) (f : FSpI) : Prop where
  ex : ∃ (g : Addr) (fd : FuncData), Mk K C g ∧ mg x = some (.ref C) ∧ FnOk P w K mg base (CX P w) k g fd ps (spI K C f) ∧ Binds K fd ps []
def tMakeS (C : Addr) (sp : Sp) (E : L2.St → XK) (t : TA) : TE := fun σ H Q => t σ H fun vs H1 => ∀ x dx, H1 x = none → H1 dx = none → dx ≠ x →
  sp (.ref x :: vs) (upd (upd H1 dx (.own x)) x (.ins C dx [])) (fun v H2 => v = .non ∧ Q (.ref x) H2) (E σ)
theorem run_makeS {X : Cx} {CX : CXT} {k : Nat} {f C : Addr} {fd : FuncData} {ps : List Str} {sp : Sp} {E : L2.St → XK} {pins : List (Addr × Obj)} {σ : L2.St} {H : Hp} {s : Shared} {Q : VK} {us : List Value} {vs : List V} (M : Mk X.K C f) (F : FnOk X.prog X.w X.K X.mg X.base CX k f fd ps sp) (hr : Room (k + 1) X.A) (hb : Binds X.K fd ps [])
    (hx : PassesAt CX X σ (E σ)) (I : Inv X pins σ H s) (r : Vals vs us)
    (h : ∀ x dx, H x = none → H dx = none → dx ≠ x → sp (.ref x :: vs) (upd (upd H dx (.own x)) x (.ins C dx [])) (fun v H2 => v = .non ∧ Q (.ref x) H2) (E σ)) :
    wpAny (model X.prog X.w) X.A (call (.ref C) us) (EP X pins σ Q) X.xe s := by
  have hq := h (s.heap.objs.size + 1) s.heap.objs.size (I.hok.fresh (Nat.le_succ _)) (I.hok.fresh (Nat.le_refl _)) (Nat.ne_of_lt (Nat.lt_succ_self _))
  have I2 := Inv.made (C := C) I
  have r2 : Vals (V.ref (s.heap.objs.size + 1) :: vs) (Value.ref (s.heap.objs.size + 1) :: us) := .cons rfl r
  have hl : (Value.ref (s.heap.objs.size + 1) :: us ++ []).length = ps.length := by
    rw [List.append_nil]
    have e := r2.length
    rw [F.len _ _ _ _ hq] at e
    exact e.symm
  have hbb := hb _ (Value.ref (s.heap.objs.size + 1) :: us) I2.kIn hl
  rw [List.append_nil] at hbb
  refine wpAny_call (make_map (f := f) I.kIn M.makes M.init (beq_iff_eq.mp M.fn) (codeAny_mono (F.run _ X.stack _ _ ⟨Value.ref (s.heap.objs.size + 1) :: us, []⟩ (Value.ref (s.heap.objs.size + 1) :: us) _ _ (E σ) (hr.make C us [])
    (I2.env0.make C us []) hbb r2 hq) fun r s' hq' => ?_))
  cases r with
  | error e => exact hx pins _ _ e s' I2 hq'
  | ok fl =>
    cases fl with
    | ret u =>
      obtain ⟨v, H', I3, rv, ev, q3⟩ := I2.after hq'
      subst ev
      exact ⟨rv, ⟨V.ref (s.heap.objs.size + 1), H', I3, rfl, q3⟩⟩
    | next => exact False.elim hq'
    | brk => exact False.elim hq'
    | cont => exact False.elim hq'
theorem pe_makeS {X : Cx} {CX : CXT} {k : Nat} {f C : Addr} {fd : FuncData} {ps : List Str} {sp : Sp} {E : L2.St → XK} {x : Str} {p : Pos} {t : TA} (M : Mk X.K C f) (F : FnOk X.prog X.w X.K X.mg X.base CX k f fd ps sp) (hr : Room (k + 1) X.A) (hg : Gl X x) (hm : X.mg x = some (.ref C)) (hb : Binds X.K fd ps []) (hx : ∀ σ, PassesAt CX X σ (E σ))
    (ha : PA X (e :: es) t) (hdb : (x == ("__debug__" : Str)) = false := by decide) (he : starEach (e :: es) X.env = (false, eval e X.env) :: starEach es X.env := by rfl) (hpl : (backTo pos (starEach es X.env)).any (·.1) = false := by rfl) :
    PE X (.Call (.Name x p) (e :: es) [] pos) (tMakeS C sp E t) := by
  refine ⟨fun pins s σ H Q I h => ?_⟩
  refine wpAny_Call_Name_kw (ld_glob I hg hm ?_ hdb)
  refine PySem.W.callWith_K (h₀ := X.base) I.ok.mod.kin M.kp (thn (ha.run pos pins s σ H _ I h) fun us s1 ⟨vs, H1, I1, r, q⟩ => ⟨I1.kIn, ?_⟩) he hpl
  exact run_makeS M F hr hb (hx σ) I1 r q
theorem make_base {K : PySem.W.Frag} {F1 F' H1 H' : Hp} {G1 G' : GD} {ad dx C : Addr} (ha : H1 ad = none) (hd : H1 dx = none) (ex1 : Ex H1 (upd (upd H1 dx (.own ad)) ad (.ins C dx [])))
    (B : Bas K F1 (fun a => if a = ad ∨ a = dx then none else Tof G1 (upd (upd H1 dx (.own ad)) ad (.ins C dx [])) a) F' G' H') : Bas K F1 (Tof G1 H1) F' G' H' := by
  have sub : ∀ q u, Tof G1 H1 q = some u → (if q = ad ∨ q = dx then none else Tof G1 (upd (upd H1 dx (.own ad)) ad (.ins C dx [])) q) = some u := fun q u hq => by
    have hG : G1 q = none := by
      cases eg : G1 q with
      | none => rfl
      | some o => rw [Tof_some eg] at hq; cases hq
    rw [Tof_none hG] at hq
    have n1 : q ≠ ad := ne_of_none hq ha
    have n2 : q ≠ dx := ne_of_none hq hd
    rw [if_neg (by simp [n1, n2]), Tof_none hG]
    exact ex1 q u hq
  have down : ∀ q, (if q = ad ∨ q = dx then none else Tof G1 (upd (upd H1 dx (.own ad)) ad (.ins C dx [])) q) = none → Tof G1 H1 q = none := fun q z => by
    cases et : Tof G1 H1 q with
    | none => rfl
    | some w => rw [sub q w et] at z; cases z
  exact ⟨B.ff, fun q u hq => (B.ft q u hq).imp id (down q), B.fh, B.gh, B.fg, fun q u hq => down q (B.gt q u hq), fun q u hq => B.tk q u (sub q u hq)⟩
theorem we_make {x : Str} {C : Addr} {k j : Nat} {ps : List Str} {f : FSpI} {Q : Res → Env2 → GD → Prop} (tk : X.Tk) (M : MakeD X.prog X.w X.K X.mg X.base x C k ps f) (hr : Room j X.A) (hg : Gl X x) (h : WA X (e :: es) r G fun ds r1 G1 => f ds G1 (fun ys G2 => Q (.sh (.ins C ys)) r1 G2) (fun xn G2 => X.QX xn r1 G2)) (hj : k + 1 ≤ j := by omega)
    (hdb : (x == ("__debug__" : Str)) = false := by decide) (he : starEach (e :: es) X.env = (false, eval e X.env) :: starEach es X.env := by rfl) (hpl : (backTo pos (starEach es X.env)).any (·.1) = false := by rfl) : WE X (.Call (.Name x p0) (e :: es) [] pos) r G Q := fun F0 T F H σ lk S => by
  obtain ⟨g, fd, h1, h2, h3, h4⟩ := M.ex
  refine Run.of (pe_makeS h1 h3 (hr.mono hj) hg h2 h4 (fun σ => passAt tk σ) paR hdb he hpl) ((h F0 T F H σ lk S).mono fun vs H1 ⟨ds, r1, G1, F1, e1, S1, k1, q1⟩ => ?_)
  intro ad dx ha hd hne
  obtain ⟨f1, f2, f3⟩ := S1.bas.freshF ha
  obtain ⟨g1, g2, g3⟩ := S1.bas.freshF hd
  have ex1 : Ex H1 (upd (upd H1 dx (.own ad)) ad (.ins C dx [])) := fun q u hq => by
    rw [upd_ne (ne_of_none hq ha), upd_ne (ne_of_none hq hd)]; exact hq
  refine ⟨ad, dx, vs, F1, G1, ds, _, _, rfl, upd_same, by rw [upd_ne hne, upd_same], hne, f1, g1, f2, g2, S1.bas.fh.trans ex1, S1.bas.gmono (Ex.refl _) fun a o _ h => ex1 a o h, S1.bas.fg, k1, q1, fun ys G' H' F' hp B rp => ⟨rfl, ?_⟩, fun xn cls d G' H' F' hp B ex => ?_⟩
  · have B' := make_base ha hd ex1 B
    exact ⟨.sh (.ins C ys), r1, G', F', e1.trans B'.ff, S1.after B', rp, hp⟩
  · have B' := make_base ha hd ex1 B
    exact ⟨r1, G', F', xn, lk.sta (S1.after B'), ex, hp⟩
/-- a block, then statements by hand -/
theorem execs_app (env : Env) (post : List Stmt) : ∀ pre : List Stmt, execs (pre ++ post) env = execs pre env >>= fun f => match f with
    | .next => execs post env
    | f => pure f
  | [] => by
    rw [List.nil_append, execs, pure_bind]
  | st :: pre => by
    rw [List.cons_append, execs, execs, bind_assoc]
    congr 1
    funext f
    cases f with
    | next => exact execs_app env post pre
    | brk => rw [pure_bind]
    | cont => rw [pure_bind]
    | ret v => rw [pure_bind]
theorem runB_then {pre post : List Stmt} {E : Ends} {σ : L2.St} {H : Hp} (h : RunB X pre { E with nx := fun σ' H' => RunB X post E σ' H' } σ H) : RunB X (pre ++ post) E σ H := fun pins s I => by
  rw [execs_app]
  refine wpAny_bind (wpAny_mono (h pins s I) (fun f s' q => ?_) fun _ _ x => x)
  cases f with
  | next => obtain ⟨σ', H', I', q⟩ := q; exact q pins s' I'
  | brk => exact wpAny_pure q
  | cont => exact wpAny_pure q
  | ret v => exact wpAny_pure q
end

theorem bt_len : bootBuiltins "len" = some (.builtin "len") := by decide +kernel
theorem bt_int : bootBuiltins "int" = some (.type "int") := by decide +kernel
theorem bt_list : bootBuiltins "list" = some (.type "list") := by decide +kernel
theorem bt_tuple : bootBuiltins "tuple" = some (.type "tuple") := by decide +kernel
theorem bt_dict : bootBuiltins "dict" = some (.type "dict") := by decide +kernel
theorem bt_bool : bootBuiltins "bool" = some (.type "bool") := by decide +kernel
theorem bt_str : bootBuiltins "str" = some (.type "str") := by decide +kernel
theorem bt_sorted : bootBuiltins "sorted" = some (.builtin "sorted") := by decide +kernel
theorem bt_isinstance : bootBuiltins "isinstance" = some (.builtin "isinstance") := by decide +kernel
theorem bt_abs : bootBuiltins "abs" = some (.builtin "abs") := by decide +kernel
theorem bt_min : bootBuiltins "min" = some (.builtin "min") := by decide +kernel
theorem bt_max : bootBuiltins "max" = some (.builtin "max") := by decide +kernel
theorem bt_sum : bootBuiltins "sum" = some (.builtin "sum") := by decide +kernel
/-! ### enumerate of a tuple -/
section
variable {prog : Program} {w : World} {A : Around} {E : Value → Shared → Prop} {s : Shared}
abbrev tIt (t : Addr) : Obj := { cls := .type "tuple_iterator", data := .fields #[.ref t, .int 0 0] }
abbrev enO (i : Addr) : Obj := { cls := .type "enumerate", data := .fields #[.none, .bool false, .ref i, rawInt 0, .none, .none] }
theorem meets_enumT (t : Addr) (its : Array Value) (o : Obj) (n : Nat) (ho : o.cls = .type "tuple" ∧ o.data = .seq its n) :
    Meets (Builtin.«enumerate.__new__» ⟨[.type "enumerate", .ref t], []⟩) (fun _ R s => s.heap.get? t = some o ∧
      R (.ok (.ret (.ref (s.heap.push (tIt t)).objs.size))) { s with heap := (s.heap.push (tIt t)).push (enO s.heap.objs.size) }) :=
  .of_wp fun prog w A R s h => by
    obtain ⟨c, dc, dt, sl⟩ := o
    obtain ⟨h1, h2⟩ := ho
    cases h1
    obtain ⟨hp, g, d, tk, os⟩ := s; obtain ⟨hl, h⟩ := h
    have sub := sub_enumerate
    have tup : Heap.IsTuple (Shared.heap ⟨hp, g, d, tk, os⟩) t its := ⟨_, hl, rfl, _, h2⟩
    wp_walk using AutoSeq1.wpAny_loadPart' hl
    refine wpAny_stack_any fun st => wpAny_pure ?_
    split
    · rename_i c _ _ _ _ _
      cases (c == Value.type "enumerate")
      all_goals
        wp_walk using AutoSeq1.wpAny_loadPart' hl, wpAny_pyIter_tuple tup
        exact ⟨_, rfl, h⟩
    · wp_walk using AutoSeq1.wpAny_loadPart' hl, wpAny_pyIter_tuple tup
      exact ⟨_, rfl, h⟩
theorem callEnumT {t : Addr} {its : Array Value} {Q : Value → Shared → Prop} (ht : s.heap.IsTuple t its)
    (h : ∀ h', IsEnum h' (s.heap.objs.size + 1) s.heap.objs.size 0 .none → h'.IsTupleIter s.heap.objs.size t 0 → (∀ b o, s.heap.get? b = some o → h'.get? b = some o) → Q (.ref (s.heap.objs.size + 1)) { s with heap := h' }) :
    wpAny (model prog w) A (call (.type "enumerate") [.ref t]) Q E s := by
  obtain ⟨o, ho, hc, n, hd⟩ := ht
  refine callType_new F.called_enumerate (by decide) (F.typeCall_enumerate_1 _) (F.newCall_enumerate_1 _) (fun obj => F.args_object_init_2 obj _) F.entry_enumerate_new (meets_enumT t its o n ⟨hc, hd⟩) ⟨ho, ?_⟩
  have z : (s.heap.push (tIt t)).objs.size = s.heap.objs.size + 1 := Heap.size_push ..
  show _ ∧ _
  rw [z]
  have he : IsEnum ((s.heap.push (tIt t)).push (enO s.heap.objs.size)) (s.heap.objs.size + 1) s.heap.objs.size 0 .none := by
    have q := Heap.get?_push_size (s.heap.push (tIt t)) (o := enO s.heap.objs.size) rfl
    rw [z] at q
    exact q
  exact ⟨⟨_, he, rfl⟩, h _ he ⟨_, Heap.get?_push_of_some _ (Heap.get?_push_size _ rfl), rfl, rfl⟩ fun b o x => Heap.get?_push_of_some _ (Heap.get?_push_of_some _ x)⟩
end
/-- the tuple at a, each item in a new pair -/
def ItU (K : PySem.W.Frag) (a : Addr) : It :=
  ⟨fun i H => ∃ (xs : List V) (x : V), SqT K H a xs ∧ xs[i]? = some x, fun i H v H' => ∃ T x, v = .ref T ∧ H T = none ∧ H' = upd H T (.tup [.int (i : Nat), x]) ∧ ∀ xs, SqT K H a xs → xs[i]? = some x, fun i H => ∃ xs : List V, SqT K H a xs ∧ xs.length = i⟩
theorem turn_enumT {P : Program} {w : World} {K : PySem.W.Frag} {elts : List Expr} {kk : Nat} {tpos : Pos} (a e it : Addr) (hae : a ≠ e) (hai : a ≠ it) :
    Turn P w K (.Tuple elts kk tpos) (ItU K a) [e, it] e (fun i h => (∃ old, IsEnum h e it ((i : Nat) : Int) old) ∧ h.IsTupleIter it a i ∧ e ≠ it) where
  mem := by simp
  obj := fun i h st b hb => by
    obtain ⟨⟨old, he⟩, ⟨o, ho, hc, hd⟩, _⟩ := st
    rcases (by simpa using hb : b = e ∨ b = it) with z | z
    · rw [z]; exact ⟨_, he, fun v q => nomatch q⟩
    · rw [z]; exact ⟨o, ho, fun v q => by rw [hd] at q; cases q⟩
  keep := fun i h h' ⟨⟨old, he⟩, hi, hne⟩ k => ⟨⟨old, k e (by simp) _ he⟩, hi.at fun o q => k it (by simp) o q, hne⟩
  item := by
    intro X hP hw hK hc i pins s σ H E I hf st hg
    subst hP hw hK
    obtain ⟨⟨old, he⟩, hit, hne⟩ := st
    obtain ⟨xs, x, hq, hx⟩ := hg
    obtain ⟨its, rv, p, hz⟩ := I.tuple hq
    obtain ⟨u, hu, ru⟩ := rv.get hx
    have hel : e < s.heap.objs.size := Heap.lt_size he
    have hil : it < s.heap.objs.size := by obtain ⟨_, q, _⟩ := hit; exact Heap.lt_size q
    have dr := Draws.tuple (prog := X.prog) (w := X.w) (A := X.A.in1) (I.ok.hd hc) it a hai its.toArray
    have lt : i < its.toArray.size := by
      have := (List.getElem?_eq_some_iff.mp hu).1
      simpa using this
    refine wpAny_pyNext_enum_itemD dr he ⟨hit, p⟩ lt hne (by simp [hne, hae.symm]) fun x' h' tk hv ho hit' hT hsz hk => ?_
    have ex : x' = u := by
      have : its[i]? = some x' := by simpa using hv
      rw [hu] at this; cases this; rfl
    subst ex
    refine ⟨_, rfl, wpAny_letOwnedTupleGo_enum (s := { s with heap := h', toks := tk + 1 }) ho fun h'' he' sb => ?_⟩
    have hT2 : h''.get? s.heap.objs.size = some { cls := .type "tuple", data := .seq #[.int i tk, x'] } := (sb.2 _ (Nat.ne_of_gt hel)).trans hT
    have new : ObjOk X.prog X.w (upd H s.heap.objs.size (.tup [.int (i : Nat), x])) h'' s.heap.objs.size (.tup [.int (i : Nat), x]) :=
      ⟨by show 2 ≤ sizeLine; decide, [.int i tk, x'], .cons ⟨_, rfl⟩ (.cons ru .nil), ⟨_, hT2, rfl, _, rfl⟩⟩
    have I1 : Inv X pins σ (upd H s.heap.objs.size (.tup [.int (i : Nat), x])) { s with heap := h'', toks := tk + 1 } :=
      I.turnedNew (ch := [e, it]) (fun b ob hb q => (sb.2 b (fun z => hb (by simp [z]))).trans (hk b ob (fun z => hb (by simp [z])) (fun z => hb (by simp [z])) q)) hf (Nat.le_refl _) new
    refine ⟨.ref s.heap.objs.size, _, I1, rfl, ⟨_, x, rfl, I.hok.fresh (Nat.le_refl _), rfl, fun ys hy => by rw [I.tuple_inj hy hq]; exact hx⟩, ⟨⟨x', he'⟩, hit'.1.at fun o q => (sb.2 it (Ne.symm hne)).trans q, hne⟩, fun b hb => ?_⟩
    have hb' : b < s.heap.objs.size := by
      rcases (by simpa using hb : b = e ∨ b = it) with z | z
      · rw [z]; exact hel
      · rw [z]; exact hil
    rw [upd_ne (Nat.ne_of_lt hb')]
    exact (hf b hb).1
  done := by
    intro X hP hw hK hc i pins s σ H E I hf st hg
    subst hP hw hK
    obtain ⟨⟨old, he⟩, hit, hne⟩ := st
    obtain ⟨xs, hq, hx⟩ := hg
    obtain ⟨its, rv, p, hz⟩ := I.tuple hq
    obtain ⟨f0, f1, f2, f3, f4, f5⟩ := hf it (by simp)
    have hl : its.toArray.size = i := by
      have := rv.length
      simp
      omega
    subst hl
    exact wpAny_pyNext_enum_endD (Draws.tuple (prog := X.prog) (w := X.w) (A := X.A.in1) (I.ok.hd hc) it a hai its.toArray) he ⟨hit, p⟩ fun h' eb => ⟨rfl, I.turned (t' := s.toks) (fun b o hb q => eb b o hb q) f0 f1 f3 f4 f5⟩
  self := fun A i s Q E ⟨⟨_, he⟩, _⟩ h => wpAny_pyIter_enum he h
def iEnumT (K : PySem.W.Frag) (ta : TA) : TI := fun σ H R => ta σ H fun vs H1 => ∃ a xs, vs = [.ref a] ∧ SqT K H1 a xs ∧ R (ItU K a) H1
theorem pi_enumT {X : Cx} {e : Expr} {ta : TA} {p pos tpos : Pos} {elts : List Expr} {kk : Nat} (hg : Gl X "enumerate") (hm : X.mg "enumerate" = none) (ha : PA X [e] ta) (hs : starEach [e] X.env = [(false, eval e X.env)] := by rfl) :
    PI X (.Tuple elts kk tpos) (.Call (.Name "enumerate" p) [e] [] pos) (iEnumT X.K ta) := by
  refine ⟨fun pins s σ H R I h => ?_⟩
  refine Call_ (ld_blt I hg hm boot_enumerate (PyProof.Rows.callWith_type1 (thn (ha.run pos pins s σ H _ I h) fun us s1 ⟨vs, H1, I1, r1, q1⟩ => ?_) hs rfl))
  obtain ⟨a, xs, ex, hq, q⟩ := q1
  subst ex
  cases r1 with
  | cons rl rr =>
    cases rr
    cases rl
    obtain ⟨its, rv, p', hz⟩ := I1.tuple hq
    have ha : a < s1.heap.objs.size := by obtain ⟨_, z, _⟩ := p'; exact Heap.lt_size z
    refine callEnumT (show s1.heap.IsTuple a its.toArray from p') fun h' he hit hk => wpAny_pyIter_enum he ?_
    refine ⟨s1.heap.objs.size + 1, [s1.heap.objs.size + 1, s1.heap.objs.size], _, _, H1, rfl, I1.kept (t' := s1.toks) hk, turn_enumT a (s1.heap.objs.size + 1) s1.heap.objs.size (Nat.ne_of_lt (Nat.lt_succ_of_lt ha)) (Nat.ne_of_lt ha), ⟨⟨.none, he⟩, hit, Nat.succ_ne_self _⟩, fun b hb => ?_, q⟩
    have hle : s1.heap.objs.size ≤ b := by
      rcases (by simpa using hb : b = s1.heap.objs.size + 1 ∨ b = s1.heap.objs.size) with z | z
      · rw [z]; exact Nat.le_succ _
      · rw [z]; exact Nat.le_refl _
    exact I1.fpOk hle (I1.hok.fresh hle)
/-! ### more that is walked -/
def enumD (k : Nat) : List D → List D
  | [] => []
  | d :: ds => .tup [.int (k : Nat), d] :: enumD (k + 1) ds
theorem enumD_len : ∀ (ds : List D) (k : Nat), (enumD k ds).length = ds.length
  | [], _ => rfl
  | d :: ds, k => by unfold enumD; rw [List.length_cons, List.length_cons, enumD_len ds]
theorem enumD_get : ∀ {ds : List D} {k i : Nat} {x : D}, (enumD k ds)[i]? = some x → ∃ d, ds[i]? = some d ∧ x = .tup [.int ((k + i : Nat) : Int), d]
  | [], k, i, x, h => by simp [enumD] at h
  | d :: ds, k, 0, x, h => by
    unfold enumD at h
    simp at h
    exact ⟨d, rfl, h.symm⟩
  | d :: ds, k, i + 1, x, h => by
    unfold enumD at h
    rw [List.getElem?_cons_succ] at h
    obtain ⟨d', h1, h2⟩ := enumD_get h
    exact ⟨d', by rw [List.getElem?_cons_succ]; exact h1, by rw [h2, show k + 1 + i = k + (i + 1) by omega]⟩
theorem rep_pair {K : PySem.W.Frag} {F : Hp} {p : Addr} {d1 d2 : D} {v1 v2 : V} (hp : F p = none) (h1 : Rep K F d1 v1) (h2 : Rep K F d2 v2) : Rep K (upd F p (.tup [v1, v2])) (.tup [d1, d2]) (.ref p) :=
  ⟨p, [v1, v2], rfl, .inl (.inl upd_same), v1, [v2], rfl, Rep.mono (Ex.new hp) _ _ h1, .one (Rep.mono (Ex.new hp) _ _ h2)⟩
theorem none_F {F H : Hp} (e : Ex F H) {p : Addr} (h : H p = none) : F p = none := none_of e h
section
variable {X : Cy} {e e2 a b c o tg : Expr} {es elts : List Expr} {kk : Nat} {st : Stmt} {sts rest body orelse : List Stmt} {r : Env2} {G : GD} {pos tpos apos cpos p0 : Pos} {D0 : EndsD}
theorem wi_enumL {Q : List D → Env2 → GD → Prop} (hg : Gl X "enumerate") (hm : X.mg "enumerate" = none) (h : WE X a r G fun x r1 G1 => ∃ ds r2, fz r1 x = some (.lst ds, r2) ∧ (ds.length ≤ LIM → Q (enumD 0 ds) r2 G1)) (hst : starEach [a] X.env = [(false, eval a X.env)] := by rfl) :
    WI X (.Tuple elts kk tpos) (.Call (.Name "enumerate" p0) [a] [] pos) r G Q := fun F0 T F H σ lk S =>
  RunI.of (pi_enum hg hm (pa_cons peR pa_nil hst) hst) ((h F0 T F H σ lk S).bl.mono fun v H1 ⟨bl, x, r1, G1, F1, e1, S1, k1, ds, r2, q1, q2⟩ => by
    obtain ⟨Fa, e2, Sa, rp⟩ := S1.fz k1 q1
    obtain ⟨ad, vs, rfl, z1, z2⟩ := rp
    have hlim : ds.length ≤ LIM := by rw [← z2.length]; exact bl.1 ad vs (.inl (Sa.bas.fh.rd z1))
    refine ⟨ad, vs, rfl, .inl (Sa.bas.fh.rd z1), enumD 0 ds, r2, G1, Fa, e1.trans e2, Sa, fun F H ea eh => ⟨⟨vs, .inl (eh.rd (ea.rd z1)), by rw [enumD_len, z2.length]; exact Nat.le_refl _⟩, fun i d hi => ?_⟩, q2 hlim⟩
    obtain ⟨d', hd, rfl⟩ := enumD_get hi
    obtain ⟨v, h1, h2⟩ := z2.get hd
    refine ⟨⟨vs, v, .inl (eh.rd (ea.rd z1)), h1⟩, fun x H' ⟨p, y, hx, hp, hH, hy⟩ => .inr ⟨p, _, hp, hH, hx, ?_⟩⟩
    have := hy vs (.inl (eh.rd (ea.rd z1)))
    rw [h1] at this; cases this
    rw [Nat.zero_add]
    exact rep_pair (none_F eh hp) rfl (Rep.mono ea _ _ h2))
theorem wi_enumT {Q : List D → Env2 → GD → Prop} (hg : Gl X "enumerate") (hm : X.mg "enumerate" = none) (h : WE X a r G fun x r1 G1 => ∃ ds r2, fz r1 x = some (.tup ds, r2) ∧ (ds.length ≤ LIM → Q (enumD 0 ds) r2 G1)) (hst : starEach [a] X.env = [(false, eval a X.env)] := by rfl) :
    WI X (.Tuple elts kk tpos) (.Call (.Name "enumerate" p0) [a] [] pos) r G Q := fun F0 T F H σ lk S =>
  RunI.of (pi_enumT hg hm (pa_cons peR pa_nil hst) hst) ((h F0 T F H σ lk S).bl.mono fun v H1 ⟨bl, x, r1, G1, F1, e1, S1, k1, ds, r2, q1, q2⟩ => by
    obtain ⟨Fa, e2, Sa, rp⟩ := S1.fz k1 q1
    obtain ⟨ad, vs, rfl, z1, z2⟩ := rp
    have hlim : ds.length ≤ LIM := by rw [← z2.length]; exact bl.2.1 ad vs (Sa.bas.fh.sqT z1)
    refine ⟨ad, vs, rfl, Sa.bas.fh.sqT z1, enumD 0 ds, r2, G1, Fa, e1.trans e2, Sa, fun F H ea eh => ⟨⟨vs, eh.sqT (ea.sqT z1), by rw [enumD_len, z2.length]⟩, fun i d hi => ?_⟩, q2 hlim⟩
    obtain ⟨d', hd, rfl⟩ := enumD_get hi
    obtain ⟨v, h1, h2⟩ := z2.get hd
    refine ⟨⟨vs, v, eh.sqT (ea.sqT z1), h1⟩, fun x H' ⟨p, y, hx, hp, hH, hy⟩ => .inr ⟨p, _, hp, hH, hx, ?_⟩⟩
    have := hy vs (eh.sqT (ea.sqT z1))
    rw [h1] at this; cases this
    rw [Nat.zero_add]
    exact rep_pair (none_F eh hp) rfl (Rep.mono ea _ _ h2))
theorem rev_get {α : Type} {xs : List α} {i : Nat} {x : α} (h : xs.reverse[i]? = some x) : i < xs.length ∧ xs[xs.length - 1 - i]? = some x := by
  have hi : i < xs.length := by
    have := (List.getElem?_eq_some_iff.mp h).1
    rw [List.length_reverse] at this; exact this
  rw [List.getElem?_reverse hi] at h
  exact ⟨hi, h⟩
theorem wi_revL {Q : List D → Env2 → GD → Prop} (hg : Gl X "reversed") (hm : X.mg "reversed" = none) (h : WE X a r G fun x r1 G1 => ∃ ds r2, fz r1 x = some (.lst ds, r2) ∧ (ds.length ≤ LIM → Q ds.reverse r2 G1)) (hst : starEach [a] X.env = (false, eval a X.env) :: starEach [] X.env := by rfl) :
    WI X tg (.Call (.Name "reversed" p0) [a] [] pos) r G Q := fun F0 T F H σ lk S =>
  RunI.of (RT.pi_revA hg hm peR hst) ((h F0 T F H σ lk S).bl.mono fun v H1 ⟨bl, x, r1, G1, F1, e1, S1, k1, ds, r2, q1, q2⟩ => by
    obtain ⟨Fa, e2, Sa, rp⟩ := S1.fz k1 q1
    obtain ⟨ad, vs, rfl, z1, z2⟩ := rp
    have hlim : ds.length ≤ LIM := by rw [← z2.length]; exact bl.1 ad vs (.inl (Sa.bas.fh.rd z1))
    refine ⟨ad, vs, rfl, .inl ⟨.inl (Sa.bas.fh.rd z1), ds.reverse, r2, G1, Fa, e1.trans e2, Sa, fun F H ea eh => ⟨by rw [List.length_reverse, z2.length]; exact Nat.le_refl _, fun i d hi => ?_⟩, q2 hlim⟩⟩
    obtain ⟨hlt, hd⟩ := rev_get hi
    rw [← z2.length] at hlt hd
    obtain ⟨v, h1, h2⟩ := z2.get hd
    refine ⟨⟨hlt, vs, v, .inl (eh.rd (ea.rd z1)), h1⟩, fun x H' ⟨hH, hy⟩ => .inl ⟨hH, ?_⟩⟩
    have := hy vs (.inl (eh.rd (ea.rd z1)))
    rw [h1] at this; cases this
    exact Rep.mono ea _ _ h2)
theorem wi_revT {Q : List D → Env2 → GD → Prop} (hg : Gl X "reversed") (hm : X.mg "reversed" = none) (h : WE X a r G fun x r1 G1 => ∃ ds r2, fz r1 x = some (.tup ds, r2) ∧ (ds.length ≤ LIM → Q ds.reverse r2 G1)) (hst : starEach [a] X.env = (false, eval a X.env) :: starEach [] X.env := by rfl) :
    WI X tg (.Call (.Name "reversed" p0) [a] [] pos) r G Q := fun F0 T F H σ lk S =>
  RunI.of (RT.pi_revA hg hm peR hst) ((h F0 T F H σ lk S).bl.mono fun v H1 ⟨bl, x, r1, G1, F1, e1, S1, k1, ds, r2, q1, q2⟩ => by
    obtain ⟨Fa, e2, Sa, rp⟩ := S1.fz k1 q1
    obtain ⟨ad, vs, rfl, z1, z2⟩ := rp
    have hlim : ds.length ≤ LIM := by rw [← z2.length]; exact bl.2.1 ad vs (Sa.bas.fh.sqT z1)
    refine ⟨ad, vs, rfl, .inr ⟨Sa.bas.fh.sqT z1, ds.reverse, r2, G1, Fa, e1.trans e2, Sa, fun F H ea eh => ⟨by rw [List.length_reverse, z2.length]; exact Nat.le_refl _, fun i d hi => ?_⟩, q2 hlim⟩⟩
    obtain ⟨hlt, hd⟩ := rev_get hi
    rw [← z2.length] at hlt hd
    obtain ⟨v, h1, h2⟩ := z2.get hd
    refine ⟨⟨hlt, vs, v, eh.sqT (ea.sqT z1), h1⟩, fun x H' ⟨hH, hy⟩ => .inl ⟨hH, ?_⟩⟩
    have := hy vs (eh.sqT (ea.sqT z1))
    rw [h1] at this; cases this
    exact Rep.mono ea _ _ h2)
/-! dicts -/
def kD : Key → D
  | .inl n => .int n
  | .inr s => .str s
theorem kD_rep {K : PySem.W.Frag} {F : Hp} (k : Key) : Rep K F (kD k) (kV k) := by cases k <;> rfl
theorem zip_get {α β : Type} {xs : List α} {ys : List β} {i : Nat} {x : α} {y : β} (h1 : xs[i]? = some x) (h2 : ys[i]? = some y) : (xs.zip ys)[i]? = some (x, y) := by
  rw [List.getElem?_zip_eq_some]; exact ⟨h1, h2⟩
theorem zip_get' {α β : Type} {xs : List α} {ys : List β} {i : Nat} {p : α × β} (h : (xs.zip ys)[i]? = some p) : xs[i]? = some p.1 ∧ ys[i]? = some p.2 := by
  obtain ⟨a, b⟩ := p
  exact List.getElem?_zip_eq_some.mp h
theorem zip_len {α β : Type} {xs : List α} {ys : List β} (h : xs.length = ys.length) : (xs.zip ys).length = xs.length := by rw [List.length_zip, h, Nat.min_self]
theorem Vw.loc {K : PySem.W.Frag} {F0 T F : Hp} {G : GD} {H : Hp} {r r2 : Env2} {σ : L2.St} {x : Res} {v : V} {ks : List Key} {ds : List D} (S : Sta K F0 T F G H r σ) (h : ResOk K T F G H r σ x v) (e : fz r x = some (.dic ks ds, r2)) : r2 = r ∧ Rep K F (.dic ks ds) v := by
  cases x with
  | sh d => cases e; exact ⟨rfl, h⟩
  | fr d =>
    have e' : (if isDic d then none else some (d, r)) = some (.dic ks ds, r2) := e
    split at e'
    · cases e'
    · rename_i hd
      cases e'
      exact absurd rfl hd
  | pk i =>
    obtain ⟨h1, d', h2⟩ := h
    have e' : (match r[i]? with | some (.own d) => if isDic d then none else some (d, r.set i (.sh d)) | _ => none) = some (.dic ks ds, r2) := e
    rw [h2] at e'
    dsimp only at e'
    split at e'
    · cases e'
    · rename_i hd
      cases e'
      exact absurd rfl hd
theorem wi_keys {Q : List D → Env2 → GD → Prop} (h : WE X e r G fun x r1 G1 => ∃ ks ds r2, fz r1 x = some (.dic ks ds, r2) ∧ (ks.length ≤ LIM → Q (ks.map kD) r2 G1)) : WI X tg e r G Q := fun F0 T F H σ lk S =>
  RunI.of (pi_keys peR) ((h F0 T F H σ lk S).bl.mono fun v H1 ⟨bl, x, r1, G1, F1, e1, S1, k1, ks, ds, r2, q1, q2⟩ => by
    obtain ⟨rfl, rp⟩ := Vw.loc S1 k1 q1
    obtain ⟨ad, ob, vs, rfl, z1, z2, z3⟩ := rp
    have hl : ks.length = vs.length := by rw [z3.length]; exact z2
    have hlim : ks.length ≤ LIM := by have := bl.2.2 ad _ (.inr ⟨ob, S1.bas.fh _ _ z1⟩); rw [zip_len hl] at this; exact this
    refine ⟨ad, ob, rfl, .inl ⟨_, S1.bas.fh _ _ z1, ks.map kD, r2, G1, F1, e1, S1, fun F H ea eh => ⟨⟨eh _ _ (ea _ _ z1), by rw [List.length_map, zip_len hl]; exact Nat.le_refl _⟩, fun i d hi => ?_⟩, q2 hlim⟩⟩
    rw [List.getElem?_map] at hi
    cases hk : ks[i]? with
    | none => rw [hk] at hi; cases hi
    | some k =>
      rw [hk] at hi
      cases hi
      have hlt : i < ks.length := (List.getElem?_eq_some_iff.mp hk).1
      refine ⟨⟨eh _ _ (ea _ _ z1), by rw [zip_len hl]; exact hlt⟩, fun x H' ⟨hH, k', v', hy, hx⟩ => .inl ⟨hH, ?_⟩⟩
      have := (zip_get' hy).1
      rw [hk] at this; cases this
      subst hx
      exact kD_rep _)
def itemD (kd : Key × D) : D := .tup [kD kd.1, kd.2]
theorem wi_items {Q : List D → Env2 → GD → Prop} (h : WE X e r G fun x r1 G1 => ∃ ks ds r2, fz r1 x = some (.dic ks ds, r2) ∧ (ks.length ≤ LIM → Q ((ks.zip ds).map itemD) r2 G1))
    (hbase : attributeBase e "items" X.env (eval e X.env) = eval e X.env := by rfl) (hline : (apos.endLine == cpos.line) = true := by rfl) : WI X (.Tuple elts kk tpos) (.Call (.Attribute e "items" apos) [] [] cpos) r G Q := fun F0 T F H σ lk S =>
  RunI.of (pi_items peR hbase hline) ((h F0 T F H σ lk S).bl.mono fun v H1 ⟨bl, x, r1, G1, F1, e1, S1, k1, ks, ds, r2, q1, q2⟩ => by
    obtain ⟨rfl, rp⟩ := Vw.loc S1 k1 q1
    obtain ⟨ad, ob, vs, rfl, z1, z2, z3⟩ := rp
    have hl : ks.length = vs.length := by rw [z3.length]; exact z2
    have hlim : ks.length ≤ LIM := by have := bl.2.2 ad _ (.inr ⟨ob, S1.bas.fh _ _ z1⟩); rw [zip_len hl] at this; exact this
    refine ⟨ad, ob, _, rfl, S1.bas.fh _ _ z1, (ks.zip ds).map itemD, r2, G1, F1, e1, S1, fun F H ea eh => ⟨⟨eh _ _ (ea _ _ z1), by rw [List.length_map, zip_len hl, zip_len z2]; exact Nat.le_refl _⟩, fun i d hi => ?_⟩, q2 hlim⟩
    rw [List.getElem?_map] at hi
    cases hk : (ks.zip ds)[i]? with
    | none => rw [hk] at hi; cases hi
    | some kd =>
      rw [hk] at hi
      cases hi
      obtain ⟨hk1, hk2⟩ := zip_get' hk
      have hlt : i < ks.length := (List.getElem?_eq_some_iff.mp hk1).1
      refine ⟨⟨eh _ _ (ea _ _ z1), by rw [zip_len hl]; exact hlt⟩, fun x H' ⟨p, k', v', hy, hx, hp, hH⟩ => .inr ⟨p, _, hp, hH, hx, ?_⟩⟩
      obtain ⟨y1, y2⟩ := zip_get' hy
      rw [hk1] at y1; cases y1
      obtain ⟨w, w1, w2⟩ := z3.get hk2
      rw [w1] at y2; cases y2
      exact rep_pair (none_F eh hp) (kD_rep _) (Rep.mono ea _ _ w2))
theorem wi_values {Q : List D → Env2 → GD → Prop} (h : WE X e r G fun x r1 G1 => ∃ ks ds r2, fz r1 x = some (.dic ks ds, r2) ∧ (ks.length ≤ LIM → Q ds r2 G1))
    (hbase : attributeBase e "values" X.env (eval e X.env) = eval e X.env := by rfl) (hline : (apos.endLine == cpos.line) = true := by rfl) : WI X tg (.Call (.Attribute e "values" apos) [] [] cpos) r G Q := fun F0 T F H σ lk S =>
  RunI.of (pi_values peR hbase hline) ((h F0 T F H σ lk S).bl.mono fun v H1 ⟨bl, x, r1, G1, F1, e1, S1, k1, ks, ds, r2, q1, q2⟩ => by
    obtain ⟨rfl, rp⟩ := Vw.loc S1 k1 q1
    obtain ⟨ad, ob, vs, rfl, z1, z2, z3⟩ := rp
    have hl : ks.length = vs.length := by rw [z3.length]; exact z2
    have hlim : ks.length ≤ LIM := by have := bl.2.2 ad _ (.inr ⟨ob, S1.bas.fh _ _ z1⟩); rw [zip_len hl] at this; exact this
    refine ⟨ad, ob, _, rfl, S1.bas.fh _ _ z1, ds, r2, G1, F1, e1, S1, fun F H ea eh => ⟨⟨eh _ _ (ea _ _ z1), by rw [zip_len hl, z2]; exact Nat.le_refl _⟩, fun i d hi => ?_⟩, q2 hlim⟩
    obtain ⟨w, w1, w2⟩ := z3.get hi
    have hlt : i < ds.length := (List.getElem?_eq_some_iff.mp hi).1
    refine ⟨⟨eh _ _ (ea _ _ z1), by rw [zip_len hl, z2]; exact hlt⟩, fun x H' ⟨hH, k', hy⟩ => .inl ⟨hH, ?_⟩⟩
    have := (zip_get' hy).2
    rw [w1] at this; cases this
    exact Rep.mono ea _ _ w2)
end


/-! ### dicts as data -/
theorem rep_kD {K : PySem.W.Frag} {F : Hp} {k : Key} {v : V} (h : Rep K F (kD k) v) : v = kV k := by
  cases k with
  | inl i => exact h
  | inr x => exact h
def putD (acc : List (Key × D)) (k : Key) (d : D) : List (Key × D) :=
  if (acc.any fun kv => decide (kv.1 = k)) = true then acc.map (fun kv => if kv.1 = k then (kv.1, d) else kv) else acc ++ [(k, d)]
def DRep (K : PySem.W.Frag) (F : Hp) : List (Key × D) → List (Key × V) → Prop
  | [], us => us = []
  | p :: acc, us => ∃ u us', us = u :: us' ∧ u.1 = p.1 ∧ Rep K F p.2 u.2 ∧ DRep K F acc us'
theorem DRep.mono {K : PySem.W.Frag} {F F' : Hp} (e : Ex F F') : ∀ {acc : List (Key × D)} {us : List (Key × V)}, DRep K F acc us → DRep K F' acc us
  | [], _, h => h
  | p :: acc, _, ⟨u, us', h1, h2, h3, h4⟩ => ⟨u, us', h1, h2, Rep.mono e _ _ h3, h4.mono e⟩
theorem DRep.length {K : PySem.W.Frag} {F : Hp} : ∀ {acc : List (Key × D)} {us : List (Key × V)}, DRep K F acc us → us.length = acc.length
  | [], _, h => by rw [show _ = [] from h]; rfl
  | p :: acc, _, ⟨u, us', h1, h2, h3, h4⟩ => by rw [h1, List.length_cons, List.length_cons, h4.length]
theorem DRep.keys {K : PySem.W.Frag} {F : Hp} : ∀ {acc : List (Key × D)} {us : List (Key × V)}, DRep K F acc us → us.map (·.1) = acc.map (·.1)
  | [], _, h => by rw [show _ = [] from h]; rfl
  | p :: acc, _, ⟨u, us', h1, h2, h3, h4⟩ => by rw [h1, List.map_cons, List.map_cons, h4.keys, h2]
theorem DRep.vals {K : PySem.W.Frag} {F : Hp} : ∀ {acc : List (Key × D)} {us : List (Key × V)}, DRep K F acc us → RepL K F (acc.map (·.2)) (us.map (·.2))
  | [], _, h => by rw [show _ = [] from h]; rfl
  | p :: acc, _, ⟨u, us', h1, h2, h3, h4⟩ => by subst h1; exact ⟨u.2, us'.map (·.2), rfl, h3, h4.vals⟩
theorem DRep.of {K : PySem.W.Frag} {F : Hp} : ∀ {ks : List Key} {ds : List D} {vs : List V}, ks.length = ds.length → RepL K F ds vs → DRep K F (ks.zip ds) (ks.zip vs)
  | [], _, _, _, _ => by rw [List.zip_nil_left, List.zip_nil_left]; rfl
  | k :: ks, [], _, h, _ => by simp at h
  | k :: ks, d :: ds, _, h, ⟨v, vs', h1, h2, h3⟩ => by subst h1; exact ⟨(k, v), ks.zip vs', rfl, rfl, h2, DRep.of (by simpa using h) h3⟩
theorem DRep.append {K : PySem.W.Frag} {F : Hp} : ∀ {acc bcc : List (Key × D)} {us ws : List (Key × V)}, DRep K F acc us → DRep K F bcc ws → DRep K F (acc ++ bcc) (us ++ ws)
  | [], _, _, _, h, h' => by rw [show _ = [] from h]; exact h'
  | p :: acc, _, _, _, ⟨u, us', h1, h2, h3, h4⟩, h' => by subst h1; exact ⟨u, us' ++ _, rfl, h2, h3, h4.append h'⟩
theorem DRep.any {K : PySem.W.Frag} {F : Hp} (k : Key) : ∀ {acc : List (Key × D)} {us : List (Key × V)}, DRep K F acc us → (us.any fun kv => decide (kv.1 = k)) = acc.any fun kv => decide (kv.1 = k)
  | [], _, h => by rw [show _ = [] from h]; rfl
  | p :: acc, _, ⟨u, us', h1, h2, h3, h4⟩ => by subst h1; rw [List.any_cons, List.any_cons, h4.any k, h2]
theorem DRep.over {K : PySem.W.Frag} {F : Hp} {k : Key} {d : D} {v : V} (hv : Rep K F d v) : ∀ {acc : List (Key × D)} {us : List (Key × V)}, DRep K F acc us → DRep K F (acc.map fun kv => if kv.1 = k then (kv.1, d) else kv) (us.map fun kv => if kv.1 = k then (kv.1, v) else kv)
  | [], _, h => by rw [show _ = [] from h]; rfl
  | p :: acc, _, ⟨u, us', h1, h2, h3, h4⟩ => by
    subst h1
    refine ⟨_, _, List.map_cons, ?_, ?_, h4.over hv⟩
    · dsimp only
      rw [h2]
      by_cases hk : p.1 = k
      · rw [if_pos hk, if_pos hk]
      · rw [if_neg hk, if_neg hk]; exact h2
    · dsimp only
      rw [h2]
      by_cases hk : p.1 = k
      · rw [if_pos hk, if_pos hk]; exact hv
      · rw [if_neg hk, if_neg hk]; exact h3
theorem DRep.put {K : PySem.W.Frag} {F : Hp} {k : Key} {d : D} {v : V} {acc : List (Key × D)} {us : List (Key × V)} (h : DRep K F acc us) (hv : Rep K F d v) : DRep K F (putD acc k d) (putK us k v) := by
  unfold putD putK
  rw [h.any k]
  by_cases hk : (acc.any fun kv => decide (kv.1 = k)) = true
  · rw [if_pos hk, if_pos hk]; exact h.over hv
  · rw [if_neg hk, if_neg hk]; exact h.append ⟨(k, v), [], rfl, rfl, hv, rfl⟩
theorem zip_maps {α β : Type} : ∀ us : List (α × β), (us.map (·.1)).zip (us.map (·.2)) = us
  | [] => rfl
  | u :: us => by rw [List.map_cons, List.map_cons, List.zip_cons_cons, zip_maps us]
def dicD (acc : List (Key × D)) : D := .dic (acc.map (·.1)) (acc.map (·.2))
theorem own_dicD {K : PySem.W.Frag} {F H : Hp} {p : Addr} {acc : List (Key × D)} {us : List (Key × V)} (h : DRep K F acc us) (hp : H p = some (.dK us)) : Own K F H p (dicD acc) := by
  refine ⟨us.map (·.2), ?_, by rw [List.length_map, List.length_map], h.vals⟩
  rw [← h.keys, zip_maps]
  exact hp
section
variable {X : Cy} {e a b c o tg kx vx : Expr} {es : List Expr} {st : Stmt} {sts rest body orelse : List Stmt} {r : Env2} {G : GD} {pos tpos p0 : Pos} {D0 : EndsD}
/-! ### dict comprehensions -/
def DcTurn (X : Cy) (scope : Scope) (tg kx vx : Expr) (ifs : List Expr) (is : List Nat) (d : D) (acc : List (Key × D)) (r : Env2) (G : GD) (Nx : List (Key × D) → Env2 → GD → Prop) : Prop :=
  ∀ Y, BlkX X scope Y → WG Y tg d r G is fun r1 G1 => match ifs with
    | [] => ∀ Y, BlkX X scope Y → WE Y kx r1 G1 fun z r2 G2 => ∃ k, z = .sh (kD k) ∧ ∀ Y, BlkX X scope Y → WE Y vx r2 G2 fun z' r3 G3 => ∃ d' r4, fz r3 z' = some (d', r4) ∧ acc.length < LIM ∧ Nx (putD acc k d') (wipeD r4 is) G3
    | [c] => ∀ Y, BlkX X scope Y → WT Y c r1 G1 fun b r2 G2 => (b = true → ∀ Y, BlkX X scope Y → WE Y kx r2 G2 fun z r3 G3 => ∃ k, z = .sh (kD k) ∧ ∀ Y, BlkX X scope Y → WE Y vx r3 G3 fun z' r4 G4 => ∃ d' r5, fz r4 z' = some (d', r5) ∧ acc.length < LIM ∧ Nx (putD acc k d') (wipeD r5 is) G4) ∧ (b = false → Nx acc (wipeD r2 is) G2)
    | _ => False
theorem dc_turn {scope : Scope}  {ifs : List Expr} {is : List Nat} {d : D} {acc : List (Key × D)} {Nx : List (Key × D) → Env2 → GD → Prop} {F0 T F H : Hp} {σ : L2.St} {v : V} {L : Addr} {us : List (Key × V)}
    (lk : Lk X F0 T) (S : Sta X.K F0 (upd T L (.dK us)) F G H r (L2.wipe σ is)) (hT : T L = none) (h0 : F0 L = none) (ha : DRep X.K F0 acc us) (rp : Rep X.K F d v) (h : DcTurn X scope tg kx vx ifs is d acc r G Nx) {Pn : Hp → Prop}
    (hN : ∀ acc' us' r' G' F' H', Nx acc' r' G' → DRep X.K F' acc' us' → Sta X.K F0 (upd T L (.dK us')) F' G' H' r' (L2.wipe σ is) → Pn H') :
    blkG X scope tg v (L2.wipe σ is) H fun σ2 H2 => L2.wipe σ2 is = L2.wipe σ is ∧ blkT X scope ifs σ2 H2 fun b H3 =>
      if b = true then blkE X scope kx σ2 H3 fun y H4 => blkE X scope vx σ2 H4 fun z H5 => ∃ kvs k, y = kV k ∧ H5 L = some (.dK kvs) ∧ kvs.length < sizeLine ∧ Pn (upd H5 L (.dK (putK kvs k z))) else Pn H3 := by
  have wi : L2.wipe (L2.wipe σ is) is = L2.wipe σ is := by
    have aux : ∀ (js : List Nat) (τ : L2.St), (∀ j ∈ js, ∀ x, τ[j]? = some x → x = none) → L2.wipe τ js = τ := by
      intro js
      induction js with
      | nil => intro τ _; rfl
      | cons j js ih =>
        intro τ hτ
        unfold L2.wipe
        rw [ih τ fun k hk => hτ k (List.mem_cons_of_mem _ hk)]
        refine List.ext_getElem? fun k => ?_
        by_cases hjk : j = k
        · subst hjk
          by_cases hl : j < τ.length
          · rw [List.getElem?_set_self hl]
            cases e : τ[j]? with
            | none => rw [List.getElem?_eq_none_iff] at e; omega
            | some x => rw [hτ j List.mem_cons_self x e]
          · rw [List.getElem?_eq_none (by rw [List.length_set]; omega), List.getElem?_eq_none (by omega)]
        · rw [List.getElem?_set_ne hjk]
    refine aux is _ fun j hj x hx => ?_
    cases x with
    | none => rfl
    | some y => exact absurd hj (wipe_some hx).2
  have fin : ∀ (F2 : Hp) (G2 : GD) (H4 : Hp) (r2 r3 : Env2) (σ2 : L2.St) (z : Res) (y : V) (k : Key) (d' : D), L2.wipe σ2 is = L2.wipe σ is → Sta X.K F0 (upd T L (.dK us)) F2 G2 H4 r2 σ2 → ResOk X.K (upd T L (.dK us)) F2 G2 H4 r2 σ2 z y → fz r2 z = some (d', r3) → acc.length < LIM → Nx (putD acc k d') (wipeD r3 is) G2 →
      ∃ kvs k', kV k = kV k' ∧ H4 L = some (.dK kvs) ∧ kvs.length < sizeLine ∧ Pn (upd H4 L (.dK (putK kvs k' y))) := fun F2 G2 H4 r2 r3 σ2 z y k d' hw S2 k2 q1 q2 q3 => by
    obtain ⟨F3, e3, S3, rp3⟩ := S2.fz k2 q1
    have hL : H4 L = some (.dK us) := S3.bas.tk L _ upd_same
    have ha3 : DRep X.K F3 acc us := DRep.mono S3.bas.ff ha
    have fL : F3 L = none := by
      cases e : F3 L with
      | none => rfl
      | some u =>
        rcases S3.bas.ft L u e with zz | zz
        · rw [h0] at zz; cases zz
        · rw [upd_same] at zz; cases zz
    have gL : G2 L = none := by
      cases e : G2 L with
      | none => rfl
      | some u => have zz := S3.bas.gt L u e; rw [upd_same] at zz; cases zz
    refine ⟨us, k, rfl, hL, by rw [ha3.length]; exact lim_lt q2, hN _ (putK us k y) _ G2 F3 _ q3 (ha3.put rp3) ?_⟩
    have Sw := S3.wipe is hw
    refine ⟨⟨Sw.bas.ff, fun q u hq => ?_, fun q u hq => ?_, fun q u hq => ?_, Sw.bas.fg, fun q u hq => ?_, fun q u hq => ?_⟩, Sw.len, fun i s hs => ?_, Sw.ap⟩
    · have hqL : q ≠ L := fun zz => by subst zz; rw [fL] at hq; cases hq
      have := Sw.bas.ft q u hq
      rw [upd_ne hqL] at this ⊢
      exact this
    · have hqL : q ≠ L := fun zz => by subst zz; rw [fL] at hq; cases hq
      rw [upd_ne hqL]; exact Sw.bas.fh q u hq
    · have hqL : q ≠ L := fun zz => by subst zz; rw [gL] at hq; cases hq
      exact (Sw.bas.gh q u hq).mono (Ex.refl _) fun o ho => by rw [upd_ne hqL]; exact ho
    · have hqL : q ≠ L := fun zz => by subst zz; rw [gL] at hq; cases hq
      have := Sw.bas.gt q u hq
      rw [upd_ne hqL] at this ⊢
      exact this
    · by_cases hqL : q = L
      · subst hqL; rw [upd_same] at hq ⊢; exact hq
      · rw [upd_ne hqL] at hq ⊢
        exact Sw.bas.tk q u (by rw [upd_ne hqL]; exact hq)
    · have hh := Sw.sl i s hs
      cases s with
      | no => trivial
      | sh d => exact hh
      | own d =>
        obtain ⟨p, k1, k3, k4, k5, k6⟩ := hh
        have hpL : p ≠ L := fun zz => by subst zz; rw [upd_same] at k6; cases k6
        rw [upd_ne hpL] at k6
        exact ⟨p, k1, k3.mono (Ex.refl _) (fun u hu => by rw [upd_ne hpL]; exact hu), k4, k5, by rw [upd_ne hpL]; exact k6⟩
  intro Y hY pins s u I rv
  have lk' : Lk X F0 (upd T L (.dK us)) := lk.ext (Ex.new hT)
  have hYK : Y.K = X.K := hY.k
  have h' := h Y hY
  unfold WG at h'
  rw [hYK] at h'
  refine wpAny_mono (h' F0 (upd T L (.dK us)) F H (L2.wipe σ is) v (hY.lk lk') S rp pins s u I rv) (fun _ s' ⟨σ', H', I', hw, r', G', F', e', S', q⟩ => ⟨σ', H', I', hw.trans wi, ?_⟩) fun _ _ x => x
  have hw' := hw.trans wi
  match ifs, q with
  | [], q =>
    unfold blkT
    dsimp only
    rw [if_pos rfl]
    intro Z hZ
    have q' := q Z hZ
    unfold WE at q'
    rw [hZ.k] at q'
    refine (q' F0 _ F' H' σ' (hZ.lk lk') S').mono fun y H4 ⟨z, r2, G2, F2, e2, S2, k2, k, hz, m1⟩ => ?_
    subst hz
    cases rep_kD (K := X.K) k2
    intro W hW
    have q2 := m1 W hW
    unfold WE at q2
    rw [hW.k] at q2
    exact (q2 F0 _ F2 H4 σ' (hW.lk lk') S2).mono fun u H5 ⟨z', r3, G3, F3, e3, S3, k3, d', r4, n1, n2, n3⟩ => fin F3 G3 H5 r3 r4 σ' z' u k d' hw' S3 k3 n1 n2 n3
  | [c], q =>
    intro Z hZ
    have q' := q Z hZ
    unfold WT at q'
    rw [hZ.k] at q'
    refine (q' F0 _ F' H' σ' (hZ.lk lk') S').mono fun b H3 ⟨r2, G2, F2, e2, S2, m1, m2⟩ => ?_
    cases b with
    | true =>
      rw [if_pos rfl]
      intro W hW
      have q2 := m1 rfl W hW
      unfold WE at q2
      rw [hW.k] at q2
      refine (q2 F0 _ F2 H3 σ' (hW.lk lk') S2).mono fun y H4 ⟨z, r3, G3, F3, e3, S3, k3, k, hz, n1⟩ => ?_
      subst hz
      cases rep_kD (K := X.K) k3
      intro V hV
      have q3 := n1 V hV
      unfold WE at q3
      rw [hV.k] at q3
      exact (q3 F0 _ F3 H4 σ' (hV.lk lk') S3).mono fun u H5 ⟨z', r4, G4, F4, e4, S4, k4, d', r5, p1, p2, p3⟩ => fin F4 G4 H5 r4 r5 σ' z' u k d' hw' S4 k4 p1 p2 p3
    | false =>
      rw [if_neg Bool.false_ne_true]
      exact hN acc us _ G2 F2 H3 (m2 rfl) (DRep.mono S2.bas.ff ha) (S2.wipe is hw')
  | _ :: _ :: _, q => exact q.elim

/-- what a comprehension's loop keeps -/
def DcInv (K : PySem.W.Frag) (T Fa : Hp) (τ : L2.St) (L : Addr) (I : List (Key × D) → Env2 → GD → Prop) : Hp → Prop := fun H' =>
  ∃ acc us r' G' F', DRep K F' acc us ∧ Sta K Fa (upd T L (.dK us)) F' G' H' r' τ ∧ I acc r' G'
theorem dc_begin {K : PySem.W.Frag} {F0 T F H : Hp} {σ : L2.St} {is : List Nat} {L : Addr} {I : List (Key × D) → Env2 → GD → Prop} (S : Sta K F0 T F G H r σ) (hL : H L = none) (h0 : I [] (wipeD r is) G) : DcInv K T F (L2.wipe σ is) L I (upd H L (.dK [])) := by
  obtain ⟨f1, f2, f3⟩ := S.bas.freshF hL
  have Sb := (S.newH (o := .dK []) hL).base.wipe (σ := σ) is rfl
  refine ⟨[], [], _, G, F, rfl, ⟨⟨Sb.bas.ff, fun q u hq => .inl hq, Sb.bas.fh, Sb.bas.gh, Sb.bas.fg, fun q u hq => ?_, fun q u hq => ?_⟩, Sb.len, fun i s hs => ?_, Sb.ap⟩, h0⟩
  · have hq' : q ≠ L := fun z => by subst z; rw [f2] at hq; cases hq
    rw [upd_ne hq']; exact Sb.bas.gt q u hq
  · by_cases hq' : q = L
    · subst hq'; rw [upd_same] at hq ⊢; exact hq
    · rw [upd_ne hq'] at hq; exact Sb.bas.tk q u hq
  · have hh := Sb.sl i s hs
    cases s with
    | no => trivial
    | sh d => exact hh
    | own d =>
      obtain ⟨p, k1, k2, k3, k4, k5⟩ := hh
      have hp : p ≠ L := fun z => by
        subst z
        by_cases hi : i ∈ is
        · have : (L2.wipe σ is)[i]? ≠ some (some (V.ref p)) := fun z => (wipe_some z).2 hi
          exact this k1
        · have e := (wipe_some k1).1
          have hr : r[i]? = some (.own d) := by
            have aux : ∀ (js : List Nat), i ∉ js → (wipeD r js)[i]? = r[i]? := by
              intro js
              induction js with
              | nil => intro _; rfl
              | cons j js ih =>
                intro hj
                unfold wipeD
                rw [List.getElem?_set_ne (fun z => hj (by rw [z]; exact List.mem_cons_self)), ih (fun z => hj (List.mem_cons_of_mem _ z))]
            rw [aux is hi] at hs
            exact hs
          exact S.freshR hL i d hr e
      exact ⟨p, k1, k2, k3, k4, by rw [upd_ne hp]; exact k5⟩
theorem dc_end {K : PySem.W.Frag} {F0 T Fa : Hp} {Ga : GD} {Ha H' : Hp} {σ : L2.St} {is : List Nat} {L : Addr} {I : List (Key × D) → Env2 → GD → Prop} {Q : Res → Env2 → GD → Prop} (B : Bas K F0 T Fa Ga Ha) (hL : Ha L = none) (hσ : Wk r (wipeD r is)) (S0 : Sta K F0 T Fa Ga Ha r σ) (h : DcInv K T Fa (L2.wipe σ is) L I H') (he : ∀ acc r' G', I acc r' G' → Q (.fr (dicD acc)) r' G') :
    PostE K F0 T Fa σ Q (.ref L) H' := by
  obtain ⟨acc, us, r', G', F', ha, S, q⟩ := h
  obtain ⟨f1, f2, f3⟩ := B.freshF hL
  have fL : F' L = none := by
    cases e : F' L with
    | none => rfl
    | some u =>
      rcases S.bas.ft L u e with zz | zz
      · rw [f1] at zz; cases zz
      · rw [upd_same] at zz; cases zz
  have gL : G' L = none := by
    cases e : G' L with
    | none => rfl
    | some u => have zz := S.bas.gt L u e; rw [upd_same] at zz; cases zz
  have tsub : ∀ q u, T q = some u → upd T L (.dK us) q = some u := fun q u hq => by
    have hqL : q ≠ L := fun zz => by subst zz; rw [f3] at hq; cases hq
    rw [upd_ne hqL]; exact hq
  have tdown : ∀ q, upd T L (.dK us) q = none → T q = none := fun q hq => by
    cases hf : T q with
    | none => rfl
    | some u => rw [tsub q u hf] at hq; cases hq
  have slots : ∀ (i : Nat) (s : Sl), r'[i]? = some s → SlotOk K T F' G' H' s σ[i]? := fun i s hs => by
    have hh := S.sl i s hs
    cases s with
    | no => trivial
    | sh d => obtain ⟨v, k1, k2⟩ := hh; exact ⟨v, (wipe_some k1).1, k2⟩
    | own d => obtain ⟨p, k1, k2, k3, k4, k5⟩ := hh; exact ⟨p, (wipe_some k1).1, k2, k3, k4, tdown p k5⟩
  have St : Sta K F0 T F' G' H' r' σ := by
    refine ⟨⟨B.ff.trans S.bas.ff, fun q u hq => ?_, S.bas.fh, S.bas.gh, S.bas.fg, fun q u hq => tdown q (S.bas.gt q u hq), fun q u hq => S.bas.tk q u (tsub q u hq)⟩, by rw [S.len, wipe_length], slots, fun i j d e hij hi hj z => ?_⟩
    · rcases S.bas.ft q u hq with zz | zz
      · exact B.ft q u zz
      · exact .inr (tdown q zz)
    · obtain ⟨p, k1, _⟩ := S.ownS hi
      obtain ⟨p2, m1, _⟩ := S.ownS hj
      refine S.ap i j d e hij hi hj ?_
      rw [(wipe_some k1).1, (wipe_some m1).1] at z
      rw [k1, m1, z]
  refine ⟨.fr (dicD acc), r', G', F', S.bas.ff, St, ⟨L, rfl, own_dicD ha (S.bas.tk L _ upd_same), fL, gL, f3, fun i d hi z => ?_⟩, he acc r' G' q⟩
  obtain ⟨p, k1, _, _, _, k5⟩ := S.ownS hi
  have e1 := (wipe_some k1).1
  rw [e1] at z; cases z
  rw [upd_same] at k5; cases k5
/-- one step of a comprehension over items -/
theorem dc_step {scope : Scope} {ifs : List Expr} {is : List Nat} {d : D} {J : It} {ds : List D} {i : Nat} {T Fa : Hp} {H H' : Hp} {σ : L2.St} {v : V} {L : Addr} {I I' : List (Key × D) → Env2 → GD → Prop} (lk : Lk X Fa T) (hL : Fa L = none) (hT : T L = none) (hJ : ItD X.K J Fa ds) (hi : ds[i]? = some d) (h : DcInv X.K T Fa (L2.wipe σ is) L I H) (y : J.yld i H v H')
    (hs : ∀ acc r' G', I acc r' G' → DcTurn X scope tg kx vx ifs is d acc r' G' I') :
    blkG X scope tg v (L2.wipe σ is) H' fun σ2 H2 => L2.wipe σ2 is = L2.wipe σ is ∧ blkT X scope ifs σ2 H2 fun b H3 =>
      if b = true then blkE X scope kx σ2 H3 fun y H4 => blkE X scope vx σ2 H4 fun z H5 => ∃ kvs k, y = kV k ∧ H5 L = some (.dK kvs) ∧ kvs.length < sizeLine ∧ DcInv X.K T Fa (L2.wipe σ is) L I' (upd H5 L (.dK (putK kvs k z))) else DcInv X.K T Fa (L2.wipe σ is) L I' H3 := by
  obtain ⟨acc, us, r', G', F1, ha1, S1, q⟩ := h
  obtain ⟨F', ef, S, rp⟩ := hJ.item S1.bas.ff S1 hi y
  have ha := DRep.mono ef ha1
  have fL : F' L = none := by
    cases e : F' L with
    | none => rfl
    | some u =>
      rcases S.bas.ft L u e with zz | zz
      · rw [hL] at zz; cases zz
      · rw [upd_same] at zz; cases zz
  have lk' : Lk X F' T := ⟨lk.t, lk.f.trans S.bas.ff, fun a o ho => (S.bas.ft a o ho).elim (fun z => lk.ft a o z) fun z => .inr (none_of lk.t (none_of (Ex.new hT) z))⟩
  refine dc_turn lk' S.base hT fL ha rp (hs acc r' G' q) fun acc' us' r2 G2 F2 H2 q2 ha2 S2 => ?_
  refine ⟨acc', us', r2, G2, F2, ha2, ⟨⟨S.bas.ff.trans S2.bas.ff, fun q u hq => ?_, S2.bas.fh, S2.bas.gh, S2.bas.fg, S2.bas.gt, S2.bas.tk⟩, S2.len, S2.sl, S2.ap⟩, q2⟩
  rcases S2.bas.ft q u hq with zz | zz
  · rcases S.bas.ft q u zz with yy | yy
    · exact .inl yy
    · by_cases hqL : q = L
      · subst hqL; rw [fL] at zz; cases zz
      · rw [upd_ne hqL] at yy ⊢; exact .inr yy
  · exact .inr zz
theorem we_dc {scope : Scope} {ifs : List Expr} (own : List (Str × Nat)) {Q : Res → Env2 → GD → Prop} (hc : X.calm = true) (hN : X.N.Nodup) (ok : BlkOk X.N X.env.scope scope own)
    (h : WI X tg e r G fun ds r2 G1 => ∃ I : Nat → List (Key × D) → Env2 → GD → Prop, I 0 [] (wipeD r2 (own.map (·.2))) G1 ∧ (∀ (k : Nat) (d : D) (acc : List (Key × D)) (r3 : Env2) (G3 : GD), ds[k]? = some d → I k acc r3 G3 → DcTurn X scope tg kx vx ifs (own.map (·.2)) d acc r3 G3 (I (k + 1))) ∧
      ∀ acc r3 G3, I ds.length acc r3 G3 → Q (.fr (dicD acc)) r3 G3) (hs : ∀ x, foldedSetIterable e X.env x = pure x := by intro _; rfl) : WE X (.DictComp kx vx [⟨tg, e, ifs, 0⟩] scope pos) r G Q := fun F0 T F H σ lk S =>
  Run.of (pe_dc hc hN piR ok blkG_ok blkT_ok blkE_ok blkE_ok hs) (by
    refine (h F0 T F H σ lk S).mono fun J H1 ⟨ds, r2, G1, Fa, e1, Sa, hJ, I, i0, it, ie⟩ L hL => ?_
    obtain ⟨f1, f2, f3⟩ := Sa.bas.freshF hL
    refine ⟨fun i m H' => m = ds.length - i ∧ i ≤ ds.length ∧ DcInv X.K T Fa (L2.wipe σ (own.map (·.2))) L (I i) H', ⟨ds.length, by simp, Nat.zero_le _, dc_begin Sa hL i0⟩, ?_⟩
    rintro i m H' ⟨rfl, hi, hI⟩
    obtain ⟨_, _, _, _, F', _, S', _⟩ := id hI
    obtain ⟨j1, j2⟩ := hJ F' H' S'.bas.ff S'.bas.fh
    by_cases hlt : i < ds.length
    · obtain ⟨j3, _⟩ := j2 i ds[i] (List.getElem?_eq_getElem hlt)
      refine .inr ⟨j3, fun H2 => DcInv X.K T Fa (L2.wipe σ (own.map (·.2))) L (I (i + 1)) H2, fun H2 p2 => ⟨ds.length - (i + 1), by omega, rfl, hlt, p2⟩, fun x H2 y => ?_⟩
      exact dc_step (lk.base Sa.bas) f1 f3 hJ (List.getElem?_eq_getElem hlt) hI y fun acc r' G' q => it i ds[i] acc r' G' (List.getElem?_eq_getElem hlt) q
    · have e : i = ds.length := by omega
      subst e
      exact .inl ⟨j1, (dc_end Sa.bas hL (wk_wipe _ _) Sa hI fun acc r' G' q => ie acc r' G' q).ext e1⟩)
end


/-! ### t[::-1] -/
section
variable {prog : Program} {w : World} {A : Around} {E : Value → Shared → Prop} {s : Shared}
theorem applied_rev {sl : Addr} {vk : Value} {n : Nat} {Q : Int × Int × Nat → Shared → Prop} (hs : s.heap.IsSliceOf sl .none .none vk) (pk : IsPart vk (some (-1)))
    (h : Q ((n : Int) - 1, -1, n) s) : wpAny (model prog w) A (Builtin.Slice.sliceApplied (.ref sl) (pure (n : Int))) Q E s := by
  obtain ⟨os, hos, hcs, hds⟩ := id hs
  unfold Builtin.Slice.sliceApplied Builtin.Slice.sliceFields
  refine wpAny_bind (wpAny_bind (wpAny_field hos hds (x := .none) rfl (wpAny_bind (wpAny_field hos hds (x := .none) rfl (wpAny_bind (wpAny_field hos hds (x := vk) rfl (wpAny_pure ?_)))))))
  refine wpAny_bind (HT.slicePart_ pk ?_)
  show wpAny _ _ (if ((-1 : Int) == 0) = true then _ else _) _ _ s
  rw [if_neg (by decide)]
  refine wpAny_bind (HT.slicePart_ .none (wpAny_bind (HT.slicePart_ .none (wpAny_bind (wpAny_pure ?_)))))
  have e : Builtin.Slice.slicePlaces ((n : Int) - 1) (-1) (-1) = n := by
    unfold Builtin.Slice.slicePlaces
    rw [if_neg (by decide)]
    by_cases h : (n : Int) - 1 > -1
    · rw [if_pos h, show (- -1 : Int) = 1 from rfl, Int.ediv_one]
      omega
    · rw [if_neg h]
      omega
  show wpAny _ _ (pure ((n : Int) - 1, (-1 : Int), Builtin.Slice.slicePlaces ((n : Int) - 1) (-1) (-1))) _ _ s
  rw [e]
  exact wpAny_pure h
theorem pick_rev (xs : Array Value) : ((List.range xs.size).filterMap fun (m : Nat) => xs[((xs.size : Int) - 1 + (m : Int) * -1).toNat]?).toArray = xs.toList.reverse.toArray := by
  rw [← PySem.W.krv_all, ← List.filterMap_reverse, ← PySem.W.krv_range, List.filterMap_map]
  congr 1
  have key : ∀ l : List Nat, (∀ m ∈ l, m < xs.size) → l.filterMap (fun (m : Nat) => xs[((xs.size : Int) - 1 + (m : Int) * -1).toNat]?) = l.filterMap ((fun i => xs[i]?) ∘ fun k => xs.size - 1 - k) := by
    intro l
    induction l with
    | nil => intro _; rfl
    | cons m l ih =>
      intro h
      have hm := h m List.mem_cons_self
      have e : ((xs.size : Int) - 1 + (m : Int) * -1).toNat = xs.size - 1 - m := by omega
      rw [List.filterMap_cons, List.filterMap_cons, ih fun k hk => h k (List.mem_cons_of_mem _ hk), e]
      rfl
  exact key _ fun m hm => List.mem_range.mp hm
theorem getItem_rev {t sl : Addr} {items : Array Value} {vk : Value} {Q : Value → Shared → Prop} (ht : IsTup s.heap t items) (hs : s.heap.IsSliceOf sl .none .none vk) (pk : IsPart vk (some (-1)))
    (h : Q (.ref s.heap.objs.size) { s with heap := s.heap.push { cls := .type "tuple", data := .seq items.toList.reverse.toArray } })
    (hsz : items.size ≤ sizeLine) : wpAny (model prog w) A (getItem (.ref t) (.ref sl)) Q E s := by
  have htake : sizeOk (.seq items.toList.reverse.toArray) := by
    show items.toList.reverse.toArray.size ≤ sizeLine
    rw [List.size_toArray, List.length_reverse, Array.length_toList]
    exact hsz
  obtain ⟨os, hos, hcs, hds⟩ := id hs
  have hTs : s.TypeIs (.ref sl) "slice" := ⟨os, hos, hcs⟩
  unfold getItem
  try with_reducible refine wpAny_holding ?_
  first | refine wpAny_bind (wpAny_pure ?_) | skip
  refine wpAny_bind (wpAny_sequenceKey ht.typeIs (by decide) ?_)
  refine wpAny_bind (wpAny_callSpecial?_slot (name := Str.ofString "__getitem__") ht.typeIs PyProof.Rows.slot_tuple_getitem
    (wpAny_call_entry PyProof.Rows.slot_tuple_getitem ht.typeIs entry_tuple_getitem ?_ (args_tuple_getitem _ _)))
  show wpAny _ _ (Builtin.Tuple.tupleItemsOf (.ref t) >>= _) _ _ s
  refine wpAny_bind (tupleItemsOf_ ht ?_)
  refine wpAny_bind (wpAny_typeOf hTs ?_)
  rw [if_pos (by decide)]
  refine wpAny_bind (applied_rev hs pk ?_)
  show wpAny _ _ (if (((items.size : Int) - 1) == 0 && (-1 : Int) == 1 && items.size == items.size) = true then _ else _) _ _ s
  rw [if_neg (by simp), pick_rev]
  first
    | exact wpAny_bind (m := Builtin.Tuple.tupleExact _) (wpAny_newObj_type (wpAny_pure ⟨_, rfl, wpAny_pure h⟩) htake)
    | exact wpAny_bind (m := Builtin.Tuple.tupleExact _) (wpAny_newObj_type (wpAny_bind (wpAny_pure (wpAny_pure ⟨_, rfl, wpAny_pure h⟩))) htake)
    | exact wpAny_bind (wpAny_bind (m := Builtin.Tuple.tupleExact _) (wpAny_newObj_type (wpAny_pure (wpAny_pure ⟨_, rfl, wpAny_pure h⟩)) htake))
    | exact wpAny_bind (wpAny_bind (m := Builtin.Tuple.tupleExact _) (wpAny_newObj_type (wpAny_pure ⟨_, rfl, wpAny_pure h⟩) htake))
end
section
variable {X : Cy} {e a b c o tg kx vx : Expr} {es : List Expr} {st : Stmt} {sts rest body orelse : List Stmt} {r : Env2} {G : GD} {pos tpos p0 p1 p2 : Pos} {D0 : EndsD}
def tRvT (K : PySem.W.Frag) (te : TE) : TE := fun σ H Q => te σ H fun v H1 => ∃ (a : Addr) (xs : List V), v = .ref a ∧ ((SqT K H1 a xs ∧ ∀ p, H1 p = none → Q (.ref p) (upd H1 p (.tup xs.reverse))) ∨ (SqL K H1 a xs ∧ ∀ p, H1 p = none → Q (.ref p) (upd H1 p (.lst xs.reverse))))
theorem pe_rv {te : TE} {p3 : Pos} {ci : Nat} (he : PE X e te) : PE X (.Subscript e (.Slice none none (some (.UnaryOp .USub (.Constant (.int 1) ci p1) p2)) p3) pos) (tRvT X.K te) := by
  refine ⟨fun pins s σ H Q I h => ?_⟩
  refine Subscript_ (thn (he.run pins s σ H _ I h) fun v s1 ⟨x, H1, I1, r1, a, xs, ex, q1⟩ => ?_)
  subst ex
  cases r1
  refine wpAny_Slice ?_
  rw [evalPart_none]
  refine wpAny_pure (wpAny_pure ?_)
  have po : PO X (some (.UnaryOp .USub (.Constant (.int 1) ci p1) p2)) _ := po_some (pe_un un_neg pe_int)
  refine thn (po.run pins s1 σ H1 (fun o H2 => o = some (-1) ∧ H2 = H1) I1 ⟨1, rfl, -1, rfl, rfl, rfl⟩) fun vk s2 ⟨o, H2, I2, pk, e1, e2⟩ => ?_
  subst e1 e2
  have I3 : Inv X pins σ H2 { s2 with heap := s2.heap.push { cls := .type "slice", data := .fields #[.none, .none, vk] } } := I2.kept (t' := s2.toks) fun b ob q => Heap.get?_push_of_some _ q
  have hs : Heap.IsSliceOf (s2.heap.push { cls := .type "slice", data := .fields #[.none, .none, vk] }) s2.heap.objs.size .none .none vk := Heap.IsSliceOf.new ..
  rcases q1 with ⟨hx, q⟩ | ⟨hx, q⟩
  · obtain ⟨its, rr, ht, hz⟩ := I3.tuple hx
    have hlen := rr.length
    refine tail_any (ops := [.ref a, .ref s2.heap.objs.size]) (T := "tuple") ht.typeIs PyProof.Rows.slot_tuple_getitem.lookup (getItem_rev ht hs pk ?_ (by rw [List.size_toArray]; omega)) (by with_unfolding_all rfl)
    refine ⟨.ref _, _, I3.laid (t' := s2.toks) (o := .tup xs.reverse) (fun b ob q => Heap.get?_push_of_some _ q) (Nat.le_refl _) ?_, rfl, q _ (I3.hok.fresh (Nat.le_refl _))⟩
    exact ⟨by rw [List.length_reverse]; exact hz, _, rr.reverse, IsTup.new _ _⟩
  · obtain ⟨its, rr, ht, hz⟩ := I3.list hx
    have hlen := rr.length
    refine tail_any (ops := [.ref a, .ref s2.heap.objs.size]) (T := "list") ht.isList.typeIs slot_list_getitem.lookup (wpAny_getItem_list_slice ht.isList hs .none .none pk (by decide) ?_ (by rw [List.size_toArray]; omega)) (by with_unfolding_all rfl)
    rw [PySem.W.krv_pick]
    refine ⟨.ref _, _, I3.laid (t' := s2.toks) (o := .lst xs.reverse) (fun b ob q => Heap.get?_push_of_some _ q) (Nat.le_refl _) ?_, rfl, q _ (I3.hok.fresh (Nat.le_refl _))⟩
    exact ⟨by rw [List.length_reverse]; exact hz, _, 0, rr.reverse, Heap.get?_push_size _ rfl⟩
theorem RepL.rev {K : PySem.W.Frag} {F : Hp} : ∀ {ds : List D} {vs : List V}, RepL K F ds vs → RepL K F ds.reverse vs.reverse
  | [], _, h => by rw [show _ = [] from h]; rfl
  | d :: ds, _, ⟨v, vs', h1, h2, h3⟩ => by
    subst h1
    rw [List.reverse_cons, List.reverse_cons]
    exact (RepL.rev h3).append (.one h2)
theorem we_rvT {p3 : Pos} {ci : Nat} {Q : Res → Env2 → GD → Prop} (h : WE X a r G fun x r1 G1 => ∃ ds, vw r1 x = some (.tup ds) ∧ Q (.sh (.tup ds.reverse)) r1 G1) : WE X (.Subscript a (.Slice none none (some (.UnaryOp .USub (.Constant (.int 1) ci p1) p2)) p3) pos) r G Q := fun F0 T F H σ lk S =>
  Run.of (pe_rv peR) ((h F0 T F H σ lk S).mono fun v H1 ⟨x, r1, G1, F1, e1, S1, k1, ds, q1, q2⟩ => by
    obtain ⟨p, vs, rfl, z1, z2⟩ := (S1.view k1 q1).tup S1.bas.fh
    refine ⟨p, vs, rfl, .inl ⟨z1, fun l hl => ?_⟩⟩
    obtain ⟨x', F', f1, f2, f3, f4⟩ := new_tup S1 (RepL.rev z2) hl (Q := fun z => Q z r1 G1) q2
    exact ⟨x', r1, G1, F', e1.trans f1, f2, f3, f4⟩)
theorem we_rvL {p3 : Pos} {ci : Nat} {Q : Res → Env2 → GD → Prop} (h : WE X a r G fun x r1 G1 => ∃ ds, vw r1 x = some (.lst ds) ∧ Q (.fr (.lst ds.reverse)) r1 G1) : WE X (.Subscript a (.Slice none none (some (.UnaryOp .USub (.Constant (.int 1) ci p1) p2)) p3) pos) r G Q := fun F0 T F H σ lk S =>
  Run.of (pe_rv peR) ((h F0 T F H σ lk S).mono fun v H1 ⟨x, r1, G1, F1, e1, S1, k1, ds, q1, q2⟩ => by
    obtain ⟨p, vs, rfl, z1, z2⟩ := (S1.view k1 q1).lst S1.bas.fh
    refine ⟨p, vs, rfl, .inr ⟨.inl z1, fun l hl => ?_⟩⟩
    obtain ⟨x', F', f1, f2, f3, f4⟩ := new_lst S1 (RepL.rev z2) hl (Q := fun z => Q z r1 G1) q2
    exact ⟨x', r1, G1, F', e1.trans f1, f2, f3, f4⟩)

/-! ### sorted(d), the keys ints -/
theorem call_sortedDA (hcalm : X.calm = true) : CallR X (.builtin "sorted") (fun xs H Q => ∃ (a : Addr) (kvs : List (Key × V)) (ks : List Int), xs = [.ref a] ∧ Rd H a (.dK kvs) ∧ kvs.map (·.1) = ks.map Sum.inl ∧
    ∀ (ys : List Int) (p : Addr), ys.Perm ks → ys.Pairwise (· ≤ ·) → H p = none → Q (.ref p) (upd H p (.lst (ys.map V.int)))) := by
  intro pins s σ H xs us Q I r q
  obtain ⟨a, kvs, ks, ex, hd, hks, q⟩ := q
  subst ex
  obtain ⟨u, eu, rx⟩ := vals1 r
  subst eu
  cases rx
  obtain ⟨z, lo, vs, rel, dd⟩ := dk_rd I.hok hd
  obtain ⟨ep, hat⟩ := dd.dictAt
  have hkeys : vs.map (·.1) = ks.map Sum.inl := rel.keys.symm.trans hks
  have hl : vs.length = ks.length := by
    have e := congrArg List.length hkeys
    rw [List.length_map, List.length_map] at e
    exact e
  have h16 : vs.length ≤ sizeLine := by rw [← rel.length]; exact z
  refine Calls.call_function_entry PyProof.Rows.kind_sorted PyProof.Rows.plain_sorted PyProof.Rows.entry_sorted (PyProof.Rows.args_sorted1 _) ?_
  unfold Builtin.«sorted»
  refine wpAny_bind (m := checkCount "sorted" 1 1 _) (wpAny_pure ?_)
  refine wpAny_bind (PySem.W.kdu_collect (A := X.A.in1) (PySem.W.kdl_dict (knd := mixKind X.prog X.w) (kvs := vs) (ep := ep) lo) (I.ok.hd hcalm) hat h16 fun h' tk acc hk hacc => ?_)
  have hal : acc.toList.length = ks.length := by rw [Array.length_toList, hacc.1, hl]
  have hS : IntsAre acc.toList ks := ints_each hal fun j v e => by
    obtain ⟨k, x, e1, e2⟩ := hacc.2 j v (by rw [← Array.getElem?_toList]; exact e)
    have e3 : (vs.map (·.1))[j]? = some k := by rw [List.getElem?_map, e1]; rfl
    rw [hkeys, List.getElem?_map] at e3
    cases e4 : ks[j]? with
    | none => rw [e4] at e3; cases e3
    | some y =>
      rw [e4] at e3
      have e5 : Sum.inl y = k := Option.some.inj e3
      subst e5
      rcases keyIs_shape (show keyIs (Sum.inl y) v = true from e2) with ⟨i, t, ek, ev⟩ | ⟨z, t, ek, ev⟩
      · cases ek
        exact ⟨y, t, rfl, ev⟩
      · cases ek
  have I1 : Inv X pins σ H { s with heap := h', toks := tk } := I.kept hk
  refine wpAny_bind (wpAny_newList ?_ (by rw [hal, ← hl]; exact h16))
  have hoL : (h'.push (seqObj "list" acc.toList.toArray 0)).get? h'.objs.size = some (seqObj "list" acc.toList.toArray 0) := Heap.get?_push_size _ rfl
  show wpAny _ _ _ _ _ { s with heap := h'.push (seqObj "list" acc.toList.toArray 0), toks := tk }
  refine wpAny_bind (wpAny_holding (wpAny_call_entry PyProof.Rows.slot_list_sort ⟨_, hoL, rfl⟩ PyProof.Rows.entry_list_sort
    (SrtO.list_sort_ord (s := { s with heap := h'.push (seqObj "list" acc.toList.toArray 0), toks := tk }) SrtO.swo_int hoL (by rw [hal, ← hl]; exact h16) (fun h2 => SrtO.ints_sortable hS h2) fun out g1 g2 => ⟨_, rfl, ?_⟩) (PyProof.Rows.args_list_sort _)))
  obtain ⟨k1, k2, k3⟩ := SrtO.ints_out hS g1 g2
  obtain ⟨e', he'⟩ := PyProof.Rows.sortedHeap_at (vs := acc.toList) (out := out.toArray) hoL
  have hlen : ((out.map SrtO.iv).map V.int).length ≤ sizeLine := by
    rw [List.length_map, k2.length_eq, ← hl]
    exact h16
  refine wpAny_pure ⟨_, rfl, .ref h'.objs.size, upd H h'.objs.size (.lst ((out.map SrtO.iv).map V.int)), I1.laid (t' := tk) (fun b u e => ?_) (Nat.le_refl _)
    (show ObjOk X.prog X.w _ _ _ (.lst ((out.map SrtO.iv).map V.int)) from ⟨hlen, out, e', vals_of_ints k1, he'⟩), rfl, q _ _ k2 k3 (I1.hok.fresh (Nat.le_refl _))⟩
  have hb : b < h'.objs.size := Heap.lt_size e
  rw [PyProof.Rows.sortedHeap_old (Nat.ne_of_lt hb) (by rw [size_push']; exact Nat.lt_succ_of_lt hb)]
  exact Heap.get?_push_of_some _ e
theorem c_sortedD {Q : Res → Prop} {ks : List Int} {ds : List D} (hcalm : X.calm = true) (q : Q (.fr (.lst ((isort ks).map D.int)))) : CallW1 X (.builtin "sorted") (.dic (ks.map Sum.inl) ds) Q := fun F0 T F G H r σ v S h => by
  obtain ⟨p, vs, rfl, k1, k2, k3⟩ := h.dic S.bas.fh
  refine ⟨_, call_sortedDA hcalm, p, _, ks, rfl, k1, ?_, fun ys l h1 h2 hl => ?_⟩
  · rw [List.map_fst_zip (by rw [k3.length]; omega)]
  · rw [isort_of h1 h2]
    exact new_lst S (RepL.of_ints _) hl q
/-! ### dict(pairs) -/
theorem pairs_rep {K : PySem.W.Frag} {F : Hp} : ∀ {kvs : List (Key × D)} {vs : List V}, RepL K F (kvs.map fun kv => .tup [kD kv.1, kv.2]) vs → ∃ (ps : List Addr) (us : List (Key × V)), vs = ps.map V.ref ∧ Paired (fun p kv => SqT K F p [kV kv.1, kv.2]) ps us ∧ DRep K F kvs us
  | [], _, h => ⟨[], [], h, .nil, rfl⟩
  | kv :: kvs, _, ⟨v, vs', h1, ⟨p, ws, h2, h3, w1, ws1, h4, h5, w2, ws2, h6, h7, h8⟩, h9⟩ => by
    obtain ⟨ps, us, z1, z2, z3⟩ := pairs_rep h9
    subst h1 h2 z1
    cases rep_kD h5
    cases (show ws2 = [] from h8)
    subst h6 h4
    exact ⟨p :: ps, (kv.1, w2) :: us, rfl, .cons h3 z2, ⟨(kv.1, w2), us, rfl, rfl, h7, z3⟩⟩
theorem DRep.fold {K : PySem.W.Frag} {F : Hp} : ∀ {kvs acc : List (Key × D)} {us ws : List (Key × V)}, DRep K F acc ws → DRep K F kvs us → DRep K F (kvs.foldl (fun acc kv => putD acc kv.1 kv.2) acc) (mergeK ws us)
  | [], _, _, _, h, h' => by rw [show _ = [] from h']; exact h
  | kv :: kvs, acc, _, ws, h, ⟨u, us', h1, h2, h3, h4⟩ => by
    subst h1
    have : DRep K F (putD acc kv.1 kv.2) (putK ws u.1 u.2) := by rw [h2]; exact h.put h3
    have z := DRep.fold this h4
    exact z
theorem paired_mono {α β : Type} {R R' : α → β → Prop} (k : ∀ a b, R a b → R' a b) : ∀ {xs : List α} {ys : List β}, Paired R xs ys → Paired R' xs ys
  | _, _, .nil => .nil
  | _, _, .cons h t => .cons (k _ _ h) (paired_mono k t)
theorem c_dictP {Q : Res → Prop} {kvs : List (Key × D)} (hcalm : X.calm = true) (q : Q (.fr (dicD (kvs.foldl (fun acc kv => putD acc kv.1 kv.2) [])))) : CallW1 X (.type "dict") (.lst (kvs.map fun kv => .tup [kD kv.1, kv.2])) Q := fun F0 T F G H r σ v S h => by
  obtain ⟨p, vs, rfl, k1, k2⟩ := h.lst S.bas.fh
  obtain ⟨ps, us, rfl, z2, z3⟩ := pairs_rep k2
  refine ⟨_, call_dictP hcalm, p, ps, us, rfl, .inl k1, paired_mono (fun a b h => S.bas.fh.sqT h) z2, fun l hl => ?_⟩
  obtain ⟨f1, f2, f3⟩ := S.bas.freshF hl
  exact ⟨.fr (dicD _), F, Ex.refl _, S.newH hl, ⟨l, rfl, own_dicD (DRep.fold (acc := []) (ws := []) rfl z3) upd_same, f1, f2, f3, S.freshR hl⟩, q⟩
end

/-- a special method of a class with slots: a plain def -/
structure SpecD (P : Program) (w : World) (K : PySem.W.Frag) (mg : Str → Option Value) (base : Heap) (C : Addr) (m : Str) (k : Nat) (ps : List Str) (sp : FSp) : Prop where
  ex : ∃ (g : Addr) (fd : FuncData), PySem.W.findIn K (.ref C) m = some (some (.ref g)) ∧ PySem.W.isFn K (.ref g) = true ∧ FnOk P w K mg base (CX P w) k g fd ps (spD K sp) ∧ Binds K fd ps []
section
variable {X : Cy} {e a b c o tg kx vx : Expr} {es : List Expr} {st : Stmt} {sts rest body orelse : List Stmt} {r : Env2} {G : GD} {pos tpos apos p0 p1 p2 : Pos} {D0 : EndsD}
/-- len(x), x an instance -/
def rLenOwn (C : Addr) (sp : Sp) (E : XK) : List V → Hp → VK → Prop := fun xs H Q => ∃ a dx vs, xs = [V.ref a] ∧ SlX.Slt H a C dx vs ∧ sp [.ref a] H (fun z H' => ∃ i, z = .int i ∧ (0 ≤ i ∧ i < 2 ^ 63) ∧ Q z H') E
theorem call_lenOwn {C g : Addr} {CX : CXT} {n : Nat} {sp : Sp} {E : XK} (hs : PySem.W.findIn X.K (.ref C) "__len__" = some (some (.ref g))) (hf : PySem.W.isFn X.K (.ref g) = true) (F : FnR X.prog X.w X.K X.mg X.base CX n g sp) (hr : Room (n + 1) X.A) (hx : Passes CX X E) : CallR X (.builtin "len") (rLenOwn C sp E) := by
  intro pins s σ H xs us Q I r h
  obtain ⟨a, dx, vs, rfl, hsl, q⟩ := h
  obtain ⟨u, rfl, ru⟩ := r.one
  cases (show u = Value.ref a from ru)
  obtain ⟨sl, od, _, J, _⟩ := SlX.slt_inst I hsl
  obtain ⟨m, hF⟩ := I.fr
  refine PySem.W.len_K hF I.ok.mod.kin J hs hf (wpAny_mono (wpAny_call (SlX.run_at (us := [.ref a]) (ws := [.ref a]) F hr.in1 I.env0.in1 hx I (.cons rfl .nil) q)) (fun w s' z => ?_) fun _ _ x => x)
  obtain ⟨z', H', I', rz, i, ei, hi, qz⟩ := z
  subst ei
  obtain ⟨t, e⟩ := (show ∃ t, w = Value.int i t from rz)
  cases e
  exact ⟨hi, .int i, H', I'.tok _, ⟨_, rfl⟩, qz⟩
theorem passF {X : Cx} : Passes (L2.CX X.prog X.w) X (fun _ _ _ => False) := fun _ _ _ _ _ _ _ h => by
  obtain ⟨_, _, _, _, _, _, _, _, _, _, _, _, z⟩ := h
  exact z.elim
theorem Vw.rep_ins {K : PySem.W.Frag} {F H : Hp} {C : Addr} {ds : List D} {v : V} (h : Vw K F H (.ins C ds) v) : Rep K F (.ins C ds) v := by
  rcases h with z | ⟨_, _, z⟩
  · exact z
  · exact z.elim
theorem Vw.rep_tup {K : PySem.W.Frag} {F H : Hp} {ds : List D} {v : V} (h : Vw K F H (.tup ds) v) : Rep K F (.tup ds) v := by
  rcases h with z | ⟨_, _, z⟩
  · exact z
  · exact z.elim
/-- a promise met, the open region as it was -/
theorem spD_same {K : PySem.W.Frag} {F0 T F H : Hp} {σ : L2.St} {sp : FSp} {ds : List D} {vs : List V} {Q : Res → Prop} {E : XK} (S : Sta K F0 T F G H r σ) (ha : RepL K F ds vs) (h : sp ds G (fun z G2 => G2 = G ∧ Q z) (fun _ _ => False)) :
    spD K sp vs H (fun v H' => ∃ x F', Ex F F' ∧ Sta K F0 T F' G H' r σ ∧ ResOk K T F' G H' r σ x v ∧ Q x) E :=
  ⟨F, G, ds, _, _, S.bas.fh, S.bas.gh, S.bas.fg, ha, h, fun x G' v H' F' ⟨e1, hp⟩ B rt => by
    subst e1
    exact ⟨x, F', B.ff, S.after B, ResOk.after S B rt, hp⟩, fun _ _ _ _ _ _ z => z.elim⟩
theorem c_lenI {C : Addr} {k j : Nat} {ps : List Str} {sp : FSp} {ds : List D} {Q : Res → Prop} (M : SpecD X.prog X.w X.K X.mg X.base C "__len__" k ps sp) (hr : Room j X.A) (h : ∀ G, sp [.ins C ds] G (fun z G2 => G2 = G ∧ ∃ i, z = .sh (.int i) ∧ (0 ≤ i ∧ i < 2 ^ 63) ∧ Q z) (fun _ _ => False)) (hj : k + 1 ≤ j := by omega) : CallW1 X (.builtin "len") (.ins C ds) Q := fun F0 T F G H r σ v S hv => by
  obtain ⟨g, fd, h1, h2, h3, h4⟩ := M.ex
  have rp := hv.rep_ins
  obtain ⟨ad, dx, vs, rfl, z1, z2⟩ := hv.ins S.bas.fh
  refine ⟨_, call_lenOwn (E := fun _ _ _ => False) h1 h2 (fnr h3 h4) (hr.mono hj) passF, ad, dx, vs.map some, rfl, z1, ?_⟩
  obtain ⟨F1, G1, ds1, post, px, k1, k2, k3, k4, k5, k6, k7⟩ := spD_same (E := fun _ _ _ => False) S (.one rp) (h G)
  refine ⟨F1, G1, ds1, post, px, k1, k2, k3, k4, k5, fun x G' v' H' F' hp B rt => ?_, k7⟩
  obtain ⟨x', F'', q1, q2, q3, q4⟩ := k6 x G' v' H' F' hp B rt
  obtain ⟨i, rfl, hi, hq⟩ := q4
  exact ⟨i, q3, hi, .sh (.int i), F'', q1, q2, q3, hq⟩
/-- x op y, x an instance, y any value of a known class -/
def rOwnX (K : PySem.W.Frag) (C : Addr) (sp : Sp) (E : XK) : R2 := fun x y H Q => ∃ a dx vs b ws, x = .ref a ∧ y = .ref b ∧ SlX.Slt H a C dx vs ∧ SqT K H b ws ∧ PySem.W.notFirst K C (.type "tuple") = true ∧ sp [x, y] H Q E
theorem op_ownX {C g : Addr} {CX : CXT} {n : Nat} {sp : Sp} {E : XK} {op : CmpOp} (hop : ∀ a b, compareOp op a b = richCompare op a b) (hs : PySem.W.findIn X.K (.ref C) (cmpInfo op).2.1 = some (some (.ref g))) (hf : PySem.W.isFn X.K (.ref g) = true) (F : FnR X.prog X.w X.K X.mg X.base CX n g sp)
    (hr : Room n X.A) (hx : Passes CX X E) : OpR X (compareOp op) (rOwnX X.K C sp E) := by
  intro pins s σ H x y v u Q I rx ry h
  obtain ⟨a, dx, vs, b, ws, rfl, rfl, ha, hb, hn, q⟩ := h
  cases (show v = Value.ref a from rx)
  cases (show u = Value.ref b from ry)
  obtain ⟨sl, od, _, J, _⟩ := SlX.slt_inst I ha
  obtain ⟨its, _, ⟨ob, hob, hcb, _⟩, _⟩ := I.tuple hb
  obtain ⟨m, hF⟩ := I.fr
  rw [hop]
  refine PySem.W.cmp_K (op := op) (tb := .type "tuple") hr.units0 hF I.ok.mod.kin J (fun A Q E s k q => wpAny_typeOf_ref (k _ _ hob) (by rw [hcb]; exact q)) hn hs hf ?_
  refine wpAny_mono (wpAny_call (run_fnR (us := [.ref a, .ref b]) (vs := [.ref a, .ref b]) F hr hx I (.cons rfl (.cons rfl .nil)) q)) (fun w s' z => ?_) fun _ _ x => x
  obtain ⟨z', H', I', rz, qz⟩ := z
  exact SlX.cmpback rz ⟨z', H', I', rz, qz⟩
theorem opw_own {C C' : Addr} {k j : Nat} {ps : List Str} {sp : FSp} {ds es : List D} {Q : Res → Prop} {op : CmpOp} (hop : ∀ a b, compareOp op a b = richCompare op a b) (M : SpecD X.prog X.w X.K X.mg X.base C (cmpInfo op).2.1 k ps sp) (hr : Room j X.A) (hn : PySem.W.notFirst X.K C (.ref C') = true) (h : ∀ G, sp [.ins C ds, .ins C' es] G (fun z G2 => G2 = G ∧ Q z) (fun _ _ => False)) (hj : k ≤ j := by omega) : OpW X (compareOp op) (.ins C ds) (.ins C' es) Q := fun F0 T F G H r σ va vb S ha hb => by
  obtain ⟨g, fd, h1, h2, h3, h4⟩ := M.ex
  have ra := ha.rep_ins
  have rb := hb.rep_ins
  obtain ⟨ad, dx, vs, rfl, z1, z2⟩ := ha.ins S.bas.fh
  obtain ⟨bd, dy, ws, rfl, y1, y2⟩ := hb.ins S.bas.fh
  exact ⟨_, SlX.op_own (E := fun _ _ _ => False) hop h1 h2 (fnr h3 h4) (hr.mono hj) passF, ad, dx, vs.map some, bd, C', dy, ws.map some, rfl, rfl, z1, y1, hn, spD_same (ds := [.ins C ds, .ins C' es]) S ⟨_, _, rfl, ra, .one rb⟩ (h G)⟩
theorem opw_ownT {C : Addr} {k j : Nat} {ps : List Str} {sp : FSp} {ds es : List D} {Q : Res → Prop} {op : CmpOp} (hop : ∀ a b, compareOp op a b = richCompare op a b) (M : SpecD X.prog X.w X.K X.mg X.base C (cmpInfo op).2.1 k ps sp) (hr : Room j X.A) (hn : PySem.W.notFirst X.K C (.type "tuple") = true) (h : ∀ G, sp [.ins C ds, .tup es] G (fun z G2 => G2 = G ∧ Q z) (fun _ _ => False)) (hj : k ≤ j := by omega) : OpW X (compareOp op) (.ins C ds) (.tup es) Q := fun F0 T F G H r σ va vb S ha hb => by
  obtain ⟨g, fd, h1, h2, h3, h4⟩ := M.ex
  have ra := ha.rep_ins
  have rb := hb.rep_tup
  obtain ⟨ad, dx, vs, rfl, z1, z2⟩ := ha.ins S.bas.fh
  obtain ⟨bd, ws, rfl, y1, y2⟩ := hb.tup S.bas.fh
  exact ⟨_, op_ownX (E := fun _ _ _ => False) hop h1 h2 (fnr h3 h4) (hr.mono hj) passF, ad, dx, vs.map some, bd, ws, rfl, rfl, z1, y1, hn, spD_same (ds := [.ins C ds, .tup es]) S ⟨_, _, rfl, ra, .one rb⟩ (h G)⟩
end

section
variable {X : Cy} {e a b c o tg kx vx : Expr} {es : List Expr} {st : Stmt} {sts rest body orelse : List Stmt} {r : Env2} {G : GD} {pos tpos apos cpos p0 p1 p2 : Pos} {D0 : EndsD}
theorem rgI_V (a b : Int) : (rgI a b).map V.int = rgV a b := by unfold rgI rgV; rw [List.map_map]; rfl
theorem we_listR2 {Q : Res → Env2 → GD → Prop} (hc : X.calm = true) (hg : Gl X "list") (hm : X.mg "list" = none) (hg2 : Gl X "range") (hm2 : X.mg "range" = none)
    (h : WE X a r G fun x r1 G1 => WE X b r1 G1 fun y r2 G2 => ∃ lo n, vw r2 x = some (.int lo) ∧ vw r2 y = some (.int n) ∧ RgOk lo n ∧ Q (.fr (.lst ((rgI lo n).map D.int))) r2 G2) (na : starEach [a, b] X.env = (false, eval a X.env) :: starEach [b] X.env := by rfl) (nb : starEach [b] X.env = (false, eval b X.env) :: starEach [] X.env := by rfl) (hpl : (backTo p2 (starEach [b] X.env)).any (·.1) = false := by rfl)
    (na2 : starEach [.Call (.Name "range" p1) [a, b] [] p2] X.env = (false, eval (.Call (.Name "range" p1) [a, b] [] p2) X.env) :: starEach [] X.env := by rfl) : WE X (.Call (.Name "list" p0) [.Call (.Name "range" p1) [a, b] [] p2] [] pos) r G Q := fun F0 T F H σ lk S =>
  Run.of (pe_listRg hc hg hm (prg_2 hg2 hm2 peR peR na nb hpl) na2) ((h F0 T F H σ lk S).mono fun v H1 ⟨x, r1, G1, F1, e1, S1, k1, h1⟩ => by
    obtain ⟨F1', e1', S1', hv⟩ := hold S1 k1
    refine (h1 F0 T F1' H1 σ lk S1').mono fun v2 H2 ⟨y, r2, G2, F2, e2, S2, k2, lo, n, q1, q2, ok, q⟩ => ?_
    refine ⟨lo, n, (hv F2 G2 H2 r2 _ e2 S2 (.inl q1)).int, (S2.view k2 q2).int, ok, fun l hl => ?_⟩
    rw [← rgI_V]
    obtain ⟨x', F', f1, f2, f3, f4⟩ := new_lst S2 (RepL.of_ints (rgI lo n)) hl (Q := fun z => Q z r2 G2) q
    exact ⟨x', r2, G2, F', ((e1.trans e1').trans e2).trans f1, f2, f3, f4⟩)
end
theorem lt_ {i n : Nat} (h : Nat.ble (i + 1) n = true) : i < n := Nat.le_of_ble_eq_true h
theorem ixN0 {α : Type} (x : α) (xs : List α) : ixN (x :: xs).length 0 = some 0 := by
  unfold ixN
  rw [if_pos (by omega), if_pos (by rw [List.length_cons]; omega)]
  rfl
/-- what builtin names stand free -/
structure Bn (mg : Str → Option Value) : Prop where
  int : mg "int" = none
  len : mg "len" = none
  list : mg "list" = none
  range : mg "range" = none
  sorted : mg "sorted" = none
  tuple : mg "tuple" = none
  dict : mg "dict" = none
  isinstance : mg "isinstance" = none
  bool : mg "bool" = none
  str : mg "str" = none
  enumerate : mg "enumerate" = none
  reversed : mg "reversed" = none
  abs : mg "abs" = none
  min : mg "min" = none
  max : mg "max" = none
  sum : mg "sum" = none
  zip : mg "zip" = none
  set : mg "set" = none
  all : mg "all" = none
  divmod : mg "divmod" = none
theorem cutD_from (ds : List D) (j : Nat) : cutD ds (some (j : Int)) none = ds.drop j := by
  unfold cutD
  rw [HT.sIx_nat, HT.sIx_none]
  by_cases h : j ≤ ds.length
  · rw [Nat.min_eq_left h, List.take_of_length_le (by rw [List.length_drop]; exact Nat.le_refl _)]
  · rw [Nat.min_eq_right (by omega), List.drop_length, List.drop_eq_nil_of_le (by omega)]
    simp
theorem cutD_to (ds : List D) (j : Nat) : cutD ds none (some (j : Int)) = ds.take j := by
  unfold cutD
  rw [HT.sIx_nat, HT.sIx_none, List.drop_zero, Nat.sub_zero]
  by_cases h : j ≤ ds.length
  · rw [Nat.min_eq_left h]
  · rw [Nat.min_eq_right (by omega), List.take_length, List.take_of_length_le (by omega)]
theorem map_erase {α β : Type} (f : α → β) : ∀ (xs : List α) (j : Nat), (xs.eraseIdx j).map f = (xs.map f).eraseIdx j
  | [], _ => by simp
  | x :: xs, 0 => rfl
  | x :: xs, j + 1 => by rw [List.eraseIdx_cons_succ, List.map_cons, List.map_cons, List.eraseIdx_cons_succ, map_erase f xs j]
section
variable {X : Cy} {r : Env2} {G : GD} {pos px py pz : Pos}
theorem wg_pair (i j : Nat) {x y : Str} {kt : Nat} {d1 d2 : D} {is : List Nat} {Q : Env2 → GD → Prop} (hc : X.calm = true) (nd : X.N.Nodup) (hi : X.N[i]? = some x) (hj : X.N[j]? = some y) (hx : L2.Loc X.env.scope x) (hy : L2.Loc X.env.scope y) (mi : i ∈ is) (mj : j ∈ is) (li : i < r.length) (lj : j < r.length)
    (q : Q ((r.set i (.sh d1)).set j (.sh d2)) G) (hfx : X.fn x = true ∨ X.env.scope.names.lookup x = some .local := by first | exact .inl rfl | exact .inr rfl | assumption) (hfy : X.fn y = true ∨ X.env.scope.names.lookup y = some .local := by first | exact .inl rfl | exact .inr rfl | assumption)
    (hn : (assignEach [.Name x px, .Name y py] X.env).length = 2 := by rfl) (hf : (assignEach [.Name x px, .Name y py] X.env).findIdx? (·.1) = none := by rfl) : WG X (.Tuple [.Name x px, .Name y py] kt pos) (.tup [d1, d2]) r G is Q :=
  wg_tup [i, j] hc (.cons (pg_name nd hi hx hfx) (.cons (pg_name nd hj hy hfy) .nil)) (fun t ht us => by
    rcases List.mem_cons.mp ht with rfl | ht
    · rfl
    · cases List.mem_singleton.mp ht; rfl) (fun k hk => by
    rcases List.mem_cons.mp hk with rfl | hk
    · exact mi
    · cases List.mem_singleton.mp hk; exact mj) rfl (fun k hk => by
    rcases List.mem_cons.mp hk with rfl | hk
    · exact li
    · cases List.mem_singleton.mp hk; exact lj) q hn hf
theorem wg_trip (i j l : Nat) {x y z : Str} {kt : Nat} {d1 d2 d3 : D} {is : List Nat} {Q : Env2 → GD → Prop} (hc : X.calm = true) (nd : X.N.Nodup) (hi : X.N[i]? = some x) (hj : X.N[j]? = some y) (hk : X.N[l]? = some z) (hx : L2.Loc X.env.scope x) (hy : L2.Loc X.env.scope y) (hz : L2.Loc X.env.scope z) (mi : i ∈ is) (mj : j ∈ is) (ml : l ∈ is) (li : i < r.length) (lj : j < r.length) (ll : l < r.length)
    (q : Q (((r.set i (.sh d1)).set j (.sh d2)).set l (.sh d3)) G) (hfx : X.fn x = true ∨ X.env.scope.names.lookup x = some .local := by first | exact .inl rfl | exact .inr rfl | assumption) (hfy : X.fn y = true ∨ X.env.scope.names.lookup y = some .local := by first | exact .inl rfl | exact .inr rfl | assumption) (hfz : X.fn z = true ∨ X.env.scope.names.lookup z = some .local := by first | exact .inl rfl | exact .inr rfl | assumption)
    (hn : (assignEach [.Name x px, .Name y py, .Name z pz] X.env).length = 3 := by rfl) (hf : (assignEach [.Name x px, .Name y py, .Name z pz] X.env).findIdx? (·.1) = none := by rfl) : WG X (.Tuple [.Name x px, .Name y py, .Name z pz] kt pos) (.tup [d1, d2, d3]) r G is Q :=
  wg_tup [i, j, l] hc (.cons (pg_name nd hi hx hfx) (.cons (pg_name nd hj hy hfy) (.cons (pg_name nd hk hz hfz) .nil))) (fun t ht us => by
    rcases List.mem_cons.mp ht with rfl | ht
    · rfl
    · rcases List.mem_cons.mp ht with rfl | ht
      · rfl
      · cases List.mem_singleton.mp ht; rfl) (fun k hk => by
    rcases List.mem_cons.mp hk with rfl | hk
    · exact mi
    · rcases List.mem_cons.mp hk with rfl | hk
      · exact mj
      · cases List.mem_singleton.mp hk; exact ml) rfl (fun k hk => by
    rcases List.mem_cons.mp hk with rfl | hk
    · exact li
    · rcases List.mem_cons.mp hk with rfl | hk
      · exact lj
      · cases List.mem_singleton.mp hk; exact ll) q hn hf
end
section
variable {X : Cy} {e a b c o tg kx vx : Expr} {es : List Expr} {st : Stmt} {sts rest body orelse : List Stmt} {r : Env2} {G : GD} {pos tpos apos cpos p0 p1 p2 : Pos} {D0 : EndsD}
/-- *e ahead of more arguments -/
theorem wa_star {Q : List D → Env2 → GD → Prop} (h : WE X e r G fun x r1 G1 => ∃ d zs r2, fz r1 x = some (d, r2) ∧ (d = .tup zs ∨ d = .lst zs) ∧ WA X es r2 G1 fun ds r3 G3 => Q (zs ++ ds) r3 G3)
    (hs : starEach (.Starred e p0 :: es) X.env = (true, eval e X.env) :: starEach es X.env := by rfl) : WA X (.Starred e p0 :: es) r G Q := fun F0 T F H σ lk S =>
  RunA.of (StX.pa_star peR paR hs) ((h F0 T F H σ lk S).mono fun v H1 ⟨x, r1, G1, F1, e1, S1, k1, d, zs, r2, q1, hd, q2⟩ => by
    obtain ⟨F2, e2, S2, rp⟩ := S1.fz k1 q1
    have go : ∀ p xs, RepL X.K F2 zs xs → (SqT X.K H1 p xs ∨ SqL X.K H1 p xs) → v = .ref p → ∃ p xs, v = V.ref p ∧ (SqT X.K H1 p xs ∨ SqL X.K H1 p xs) ∧ RunA X es σ H1 fun ys H2 => ∃ ds r1 G1 F1, Ex F F1 ∧ Sta X.K F0 T F1 G1 H2 r1 σ ∧ RepL X.K F1 ds (xs ++ ys) ∧ Q ds r1 G1 := fun p xs hx hsq hv =>
      ⟨p, xs, hv, hsq, (q2 F0 T F2 H1 σ lk S2).mono fun vs H3 ⟨ds, r3, G3, F3, e3, S3, k3, q3⟩ => ⟨zs ++ ds, r3, G3, F3, (e1.trans e2).trans e3, S3, (RepL.mono e3 _ _ hx).append k3, q3⟩⟩
    rcases hd with rfl | rfl
    · obtain ⟨p, xs, hv, z1, z2⟩ := rp
      exact go p xs z2 (.inl (S2.bas.fh.sqT z1)) hv
    · obtain ⟨p, xs, hv, z1, z2⟩ := rp
      exact go p xs z2 (.inr (.inl (S2.bas.fh.rd z1))) hv)
/-- max, min of a list of ints -/
theorem c_maxL {Q : Res → Prop} {ns : List Int} (hc : X.calm = true) (hn : ns ≠ []) (q : ∀ m, m ∈ ns → (∀ y ∈ ns, y ≤ m) → Q (.sh (.int m))) : CallW1 X (.builtin "max") (.lst (ns.map D.int)) Q := fun F0 T F G H r σ v S h => by
  obtain ⟨p, vs, rfl, k1, k2⟩ := h.lst S.bas.fh
  cases k2.ints
  exact ⟨_, cr_max hc, p, ns, rfl, .inl k1, List.length_pos_iff.mpr hn, fun m h1 h2 => ⟨.sh (.int m), F, Ex.refl _, S, rfl, q m h1 h2⟩⟩
theorem c_minL {Q : Res → Prop} {ns : List Int} (hc : X.calm = true) (hn : ns ≠ []) (q : ∀ m, m ∈ ns → (∀ y ∈ ns, m ≤ y) → Q (.sh (.int m))) : CallW1 X (.builtin "min") (.lst (ns.map D.int)) Q := fun F0 T F G H r σ v S h => by
  obtain ⟨p, vs, rfl, k1, k2⟩ := h.lst S.bas.fh
  cases k2.ints
  exact ⟨_, cr_min hc, p, ns, rfl, .inl k1, List.length_pos_iff.mpr hn, fun m h1 h2 => ⟨.sh (.int m), F, Ex.refl _, S, rfl, q m h1 h2⟩⟩
/-- xs.index(k), ints -/
theorem mw_index {Q : Res → Prop} {ns : List Int} {k : Int} {j : Nat} (hj : ns[j]? = some k) (hno : ∀ m, m < j → ns[m]? ≠ some k) (q : Q (.sh (.int (j : Nat)))) : MtW X "list.index" (.lst (ns.map D.int)) (.int k) Q := fun F0 T F G H r σ v w S h hw => by
  obtain ⟨p, vs, rfl, k1, k2⟩ := h.lst S.bas.fh
  cases k2.ints
  cases hw.int
  refine ⟨_, mt_index, p, ns.map V.int, .int k, j, .int k, rfl, rfl, .inl k1, rfl, ?_, ?_, beq_self_eq_true k, fun m z' hm hz => ?_, .sh (.int (j : Nat)), F, Ex.refl _, S, rfl, q⟩
  · rw [List.all_map]; exact List.all_eq_true.mpr fun _ _ => rfl
  · rw [List.getElem?_map, hj]; rfl
  · rw [List.getElem?_map] at hz
    cases e : ns[m]? with
    | none => rw [e] at hz; cases hz
    | some n =>
      rw [e] at hz
      cases hz
      exact beq_eq_false_iff_ne.mpr fun z => hno m hm (by rw [e, z])
theorem mw_count {Q : Res → Prop} {ns : List Int} {k : Int} (q : Q (.sh (.int (ns.count k : Nat)))) : MtW X "list.count" (.lst (ns.map D.int)) (.int k) Q := fun F0 T F G H r σ v w S h hw => by
  obtain ⟨p, vs, rfl, k1, k2⟩ := h.lst S.bas.fh
  cases k2.ints
  cases hw.int
  exact ⟨_, mt_lcount, p, ns, k, rfl, rfl, .inl k1, .sh (.int (ns.count k : Nat)), F, Ex.refl _, S, rfl, q⟩
theorem we_index {Q : Res → Env2 → GD → Prop}
    (h : WE X o r G fun x r1 G1 => ∃ ds0, VwR r1 G1 x (.lst ds0) ∧ WE X e r1 G1 fun y r2 G2 => ∃ dr da, VwR r2 G2 x dr ∧ VwR r2 G2 y da ∧ MtW X "list.index" dr da fun z => Q z r2 G2)
    (hbase : attributeBase o "index" X.env (eval o X.env) = eval o X.env := by rfl)
    (hfew : ((backTo cpos (starEach [e] X.env)).all (fun x => !x.1) && (backToKw cpos (keywordEach [] X.env)).all (fun x => x.1.isSome) && decide (([e] : List Expr).length + ([] : List Keyword).length + (if ([] : List Keyword).isEmpty then 0 else 1) < 30)) = true := by rfl)
    (hline : (apos.endLine == cpos.line) = true := by rfl) (hs : starEach [e] X.env = (false, eval e X.env) :: starEach [] X.env := by rfl) (hplain : (backTo cpos (starEach [] X.env)).any (·.1) = false := by rfl) :
    WE X (.Call (.Attribute o "index" apos) [e] [] cpos) r G Q := we_r1 PySem.F.plainAttrs_list PySem.F.slot_list_index PySem.F.type_list_index h hbase hfew hline hs hplain
theorem we_count {Q : Res → Env2 → GD → Prop}
    (h : WE X o r G fun x r1 G1 => ∃ ds0, VwR r1 G1 x (.lst ds0) ∧ WE X e r1 G1 fun y r2 G2 => ∃ dr da, VwR r2 G2 x dr ∧ VwR r2 G2 y da ∧ MtW X "list.count" dr da fun z => Q z r2 G2)
    (hbase : attributeBase o "count" X.env (eval o X.env) = eval o X.env := by rfl)
    (hfew : ((backTo cpos (starEach [e] X.env)).all (fun x => !x.1) && (backToKw cpos (keywordEach [] X.env)).all (fun x => x.1.isSome) && decide (([e] : List Expr).length + ([] : List Keyword).length + (if ([] : List Keyword).isEmpty then 0 else 1) < 30)) = true := by rfl)
    (hline : (apos.endLine == cpos.line) = true := by rfl) (hs : starEach [e] X.env = (false, eval e X.env) :: starEach [] X.env := by rfl) (hplain : (backTo cpos (starEach [] X.env)).any (·.1) = false := by rfl) :
    WE X (.Call (.Attribute o "count" apos) [e] [] cpos) r G Q := we_r1 PySem.F.plainAttrs_list PySem.F.slot_list_count PySem.F.type_list_count h hbase hfew hline hs hplain
theorem we_tupR1 {Q : Res → Env2 → GD → Prop} (hc : X.calm = true) (hg : Gl X "tuple") (hm : X.mg "tuple" = none) (hg2 : Gl X "range") (hm2 : X.mg "range" = none)
    (h : WE X a r G fun x r1 G1 => ∃ n, vw r1 x = some (.int n) ∧ RgOk 0 n ∧ Q (.sh (.tup ((rgI 0 n).map D.int))) r1 G1) (na : starEach [a] X.env = (false, eval a X.env) :: starEach [] X.env := by rfl)
    (na2 : starEach [.Call (.Name "range" p1) [a] [] p2] X.env = (false, eval (.Call (.Name "range" p1) [a] [] p2) X.env) :: starEach [] X.env := by rfl) : WE X (.Call (.Name "tuple" p0) [.Call (.Name "range" p1) [a] [] p2] [] pos) r G Q := fun F0 T F H σ lk S =>
  Run.of (pe_tupRg hc hg hm (prg_1 hg2 hm2 peR na) na2) ((h F0 T F H σ lk S).mono fun v H1 ⟨x, r1, G1, F1, e1, S1, k1, n, q1, ok, q⟩ => by
    refine ⟨n, (S1.view k1 q1).int, ok, fun l hl => ?_⟩
    rw [← rgI_V]
    obtain ⟨x', F', f1, f2, f3, f4⟩ := new_tup S1 (RepL.of_ints (rgI 0 n)) hl (Q := fun z => Q z r1 G1) q
    exact ⟨x', r1, G1, F', e1.trans f1, f2, f3, f4⟩)
theorem call_lenR : CallR X (.builtin "len") (fun xs H Q => ∃ a kvs, xs = [V.ref a] ∧ Rd H a (.dK kvs) ∧ Q (.int (kvs.length : Nat)) H) := fun pins s σ H xs us Q I rv ⟨a, kvs, ex, hd, q⟩ => by
  subst ex
  obtain ⟨u, rfl, ru⟩ := rv.one
  cases (show u = Value.ref a from ru)
  exact d_len I hd fun t s' I' => ⟨.int (kvs.length : Nat), H, I', ⟨t, rfl⟩, q⟩
theorem c_lenD {Q : Res → Prop} {acc : List (Key × D)} (q : Q (.sh (.int (acc.length : Nat)))) : CallW1 X (.builtin "len") (dicD acc) Q := fun F0 T F G H r σ v S h => by
  obtain ⟨p, vs, rfl, k1, k2, k3⟩ := h.dic S.bas.fh
  have e : ((acc.map (·.1)).zip vs).length = acc.length := by
    rw [List.length_zip, List.length_map, k3.length, List.length_map, Nat.min_self]
  refine ⟨_, call_lenR, p, _, rfl, k1, .sh (.int (acc.length : Nat)), F, Ex.refl _, S, ?_, q⟩
  show V.int _ = V.int _
  rw [e]
/-- a, b = e, e a pair -/
theorem ws_unp2 (i j : Nat) {x y : Str} {px py tpos : Pos} {k : Nat} (hc : X.calm = true) (nd : X.N.Nodup) (hi : X.N[i]? = some x) (hj : X.N[j]? = some y) (hx : L2.Loc X.env.scope x) (hy : L2.Loc X.env.scope y)
    (h : WE X e r G fun z r1 G1 => ∃ d1 d2 r2, fz r1 z = some (.tup [d1, d2], r2) ∧ i < r2.length ∧ j < r2.length ∧ D0.nx ((r2.set i (.sh d1)).set j (.sh d2)) G1)
    (hfx : X.fn x = true ∨ X.env.scope.names.lookup x = some .local := by first | exact .inl rfl | exact .inr rfl | assumption) (hfy : X.fn y = true ∨ X.env.scope.names.lookup y = some .local := by first | exact .inl rfl | exact .inr rfl | assumption)
    (hn : (assignEach [.Name x px, .Name y py] X.env).length = 2 := by rfl) (hf : (assignEach [.Name x px, .Name y py] X.env).findIdx? (·.1) = none := by rfl)
    (hs : swapsWithSole [.Tuple [.Name x px, .Name y py] k tpos] e pos.line X.env = pure false := by rfl) (hw : swappedStores [.Tuple [.Name x px, .Name y py] k tpos] e X.env = pure none := by rfl)
    (h1 : (assignEach [.Tuple [.Name x px, .Name y py] k tpos] X.env).map (·.2) = [assign (.Tuple [.Name x px, .Name y py] k tpos) X.env] := by rfl) : WS X (.Assign [.Tuple [.Name x px, .Name y py] k tpos] e pos) r G D0 :=
  ws_unpack [i, j] hc (.cons (pg_name nd hi hx hfx) (.cons (pg_name nd hj hy hfy) .nil)) (fun t ht us => by
    rcases List.mem_cons.mp ht with rfl | ht
    · rfl
    · cases List.mem_singleton.mp ht; rfl) (h.mono fun z r1 G1 ⟨d1, d2, r2, q1, q2, q3, q4⟩ => ⟨[d1, d2], r2, q1, rfl, fun k hk => by
      rcases List.mem_cons.mp hk with rfl | hk
      · exact q2
      · cases List.mem_singleton.mp hk; exact q3, q4⟩) hn hf hs hw h1
end

abbrev LIM2 : Nat := 1000000
/-! ### one dict laid into another -/
section
variable {P : Program} {w : World} {A : Around} {E : Value → Shared → Prop} {s : Shared}
theorem putK_ok {d : Addr} {kvs : List (Key × Value)} {k : Key} {key v : Value} {Q : Unit → Shared → Prop} (hkey : (mixKind P w).is k key = true) (hm : s.heap.DictOf (mixKind P w) d kvs)
    (hQ : ∀ h', h'.DictOf (mixKind P w) d (stored kvs k v) → Heap.SameBut d s.heap h' → Q () { s with heap := h' }) (hsz : kvs.length ≤ sizeLine) :
    wpAny (model P w) A (dictPut d ((mixKind P w).hash k) key v) Q E s := by
  obtain ⟨o, es, ep, ho, hc, hd, hk, hp, hn⟩ := hm
  have hes : es.size ≤ sizeLine := by
    have e1 := hp.length
    have e2 : es.toList.length = es.size := by simp
    omega
  unfold dictPut
  refine wpAny_bind (wpAny_dictFind_of hkey ho hd hk ?_)
  have hidx : (es.findIdx? fun e => (mixKind P w).is k e.key) = kvs.findIdx? fun kv => decide (kv.1 = k) := by
    rw [← hp.findIdx k]; obtain ⟨l⟩ := es; simp
  cases hi : es.findIdx? fun e => (mixKind P w).is k e.key with
  | some i =>
    refine wpAny_updateDict ho hd (hQ _ ⟨_, _, ep, Heap.get?_update_self _ ho (Obj.isFreed_of_dict (Obj.data_mapDict hd _)), hc.mapDict _, Obj.data_mapDict hd _, hk.modify _ _, ?_, ?_⟩ (Heap.SameBut.update ..))
    · rw [stored, if_pos (any_of_findIdx_some (hidx ▸ hi))]
      have hl : (es.toList.findIdx? fun e => (mixKind P w).is k e.key) = some i := by rw [← hi]; obtain ⟨l⟩ := es; simp
      have := hp.modify hn hl v
      obtain ⟨l⟩ := es
      simpa using this
    · rw [stored, if_pos (any_of_findIdx_some (hidx ▸ hi)), keys_map_store]; exact hn
  | none =>
    have hnot : k ∉ kvs.map (·.1) := not_mem_of_findIdx_none (hidx ▸ hi)
    have hany : ¬ (kvs.any fun kv => decide (kv.1 = k)) = true := by
      rw [List.any_eq_true]; rintro ⟨kv, hkv, he⟩
      exact hnot (List.mem_map.mpr ⟨kv, hkv, of_decide_eq_true he⟩)
    refine wpAny_updateDictKeys (hz := hes) ho hd (hQ _ ⟨_, _, ep + 1, Heap.get?_update_self _ ho (Obj.isFreed_of_dict (Obj.data_mapDictKeys hd _)), hc.mapDictKeys _, Obj.data_mapDictKeys hd _, hk.push hkey _, ?_, ?_⟩ (Heap.SameBut.update ..))
    · rw [stored, if_neg hany]
      have := hp.append hkey ((mixKind P w).hash k) v
      obtain ⟨l⟩ := es
      simpa using this
    · rw [stored, if_neg hany, List.map_append, List.nodup_append]
      refine ⟨hn, by simp, ?_⟩
      intro a ha b hb
      simp only [List.map_cons, List.map_nil, List.mem_singleton] at hb
      subst hb
      exact fun e => hnot (e ▸ ha)
theorem merge_ok {d o : Addr} {kvs more : List (Key × Value)} {Q : Unit → Shared → Prop} (hdo : d ≠ o) (hoS : (o == sysModules) = false)
    (hd : s.heap.DictOf (mixKind P w) d kvs) (ho : s.heap.DictOf (mixKind P w) o more)
    (hQ : ∀ h', h'.DictOf (mixKind P w) d (merged kvs more) → Heap.SameBut d s.heap h' → Q () { s with heap := h' }) (hsz : kvs.length + more.length ≤ sizeLine) :
    wpAny (model P w) A (mergeMapping d (.ref o) false) Q E s := by
  obtain ⟨od, esd, epd, hod, hcd, hdd, hkd, hpd, hnd⟩ := id hd
  obtain ⟨oo, eso, epo, hoo, hco, hdo', hko, hpo, hno⟩ := id ho
  have hlen : more.length = eso.size := by rw [← hpo.length]; simp
  have hT : s.TypeIs (.ref o) "dict" := ⟨oo, hoo, hco.1⟩
  unfold mergeMapping
  refine wpAny_bind (wpAny_isInstance hT PySem.isSubtype_dict_dict ?_)
  dsimp only
  rw [if_pos rfl]
  refine wpAny_bind (wpAny_specialOf hT PySem.F.slot_dict_iter.lookup (wpAny_bind (wpAny_pure ?_)))
  rw [show (some (Value.builtin "dict.__iter__") == some (Value.builtin "dict.__iter__")) = true from beq_self_eq_true _]
  dsimp only
  rw [if_neg (by rw [hoS]; exact Bool.false_ne_true)]
  have loop : wpAny (model P w) A (do
      let l ← dictEntries o
      let epoch ← dictEpoch o
      forIn (List.range l.size) PUnit.unit fun i (_ : PUnit) => (do
          let l' ← dictEntries o
          match l'[i]? with
            | some e => do
              holding [e.key, e.val] (dictPut d e.hash e.key e.val)
              let ep' ← dictEpoch o
              if (ep' != epoch) = true then do
                  (unsupported "dict.changed-during-merge" : Sem PUnit)
                  pure (ForInStep.yield PUnit.unit)
                else pure (ForInStep.yield PUnit.unit)
            | _ => do
              (unsupported "dict.changed-during-merge" : Sem PUnit)
              pure (ForInStep.yield PUnit.unit) : Sem (ForInStep PUnit))
      pure ()) Q E s := by
    refine wpAny_bind (wpAny_dictEntries hoo hdo' ?_)
    refine wpAny_bind (wpAny_dictEpoch hoo hdo' ?_)
    refine wpAny_bind ?_
    rw [List.range_eq_range']
    refine wpAny_forIn_list _
      (fun rest _ s' => ∃ h' i, s' = { s with heap := h' } ∧ rest = List.range' i (eso.size - i) ∧ i ≤ eso.size ∧ h'.DictOf (mixKind P w) d (merged kvs (more.take i)) ∧ h'.get? o = some oo ∧ Heap.SameBut d s.heap h')
      _ ?_ ?_ _ _ ⟨s.heap, 0, rfl, rfl, Nat.zero_le _, hd, hoo, Heap.SameBut.refl _ _⟩
    · rintro x rest b s' ⟨h', i, rfl, hr, hi, hd', hoo', hs'⟩
      have hlt : i < eso.size := by
        rcases Nat.lt_or_ge i eso.size with h | h
        · exact h
        · rw [Nat.sub_eq_zero_of_le h] at hr; cases hr
      have hs1 : eso.size - i = (eso.size - (i + 1)) + 1 := by omega
      rw [hs1, List.range'_succ] at hr
      obtain ⟨rfl, hrest⟩ := List.cons.inj hr
      refine wpAny_bind (wpAny_dictEntries hoo' hdo' ?_)
      rw [Array.getElem?_eq_getElem hlt]
      obtain ⟨⟨k, v⟩, hkv⟩ : ∃ kv, more[x]? = some kv := ⟨more[x]'(by rw [hlen]; exact hlt), List.getElem?_eq_getElem _⟩
      obtain ⟨hkey, hval⟩ := hpo.get? (e := eso[x]) (by simp [hlt]) hkv
      obtain ⟨k', hkey', hhash⟩ := hko eso[x] (Array.getElem_mem hlt)
      obtain rfl : k' = k := (mixKind P w).inj _ _ _ hkey' hkey
      show wpAny _ _ (holding [eso[x].key, eso[x].val] (dictPut d eso[x].hash eso[x].key eso[x].val) >>= _) _ _ _
      rw [hhash, hval]
      have hmx : (merged kvs (more.take x)).length ≤ sizeLine := by
        have e1 := merged_length_le kvs (more.take x)
        have e2 : (more.take x).length ≤ more.length := by rw [List.length_take]; omega
        omega
      refine wpAny_bind (wpAny_holding (putK_ok hkey hd' (fun h'' hd'' hs'' => ?_) hmx))
      have hoo'' : h''.get? o = some oo := (hs''.2 o (Ne.symm hdo)).trans hoo'
      refine wpAny_bind (wpAny_dictEpoch hoo'' hdo' ?_)
      rw [if_neg (by simp)]
      exact wpAny_pure ⟨h'', x + 1, rfl, hrest, hlt, by rw [merged_take_succ kvs more x (k', v) hkv]; exact hd'', hoo'', hs'.trans hs''⟩
    · rintro b s' ⟨h', i, rfl, hr, hi, hd', hoo', hs'⟩
      have hin : i = eso.size := by
        rcases Nat.lt_or_ge i eso.size with h | h
        · have e : eso.size - i = (eso.size - (i + 1)) + 1 := by omega
          rw [e, List.range'_succ] at hr
          cases hr
        · exact Nat.le_antisymm hi h
      refine wpAny_pure (hQ h' ?_ hs')
      rw [hin, ← hlen, List.take_length] at hd'
      exact hd'
  refine wpAny_bind (wpAny_dictEntries hod hdd ?_)
  split
  · refine wpAny_bind (wpAny_dictEntries hoo hdo' ?_)
    refine wpAny_bind (wpAny_forIn_array' _ (fun rest _ s' => s' = s ∧ ∀ e ∈ rest, ∃ k, (mixKind P w).is k e.key = true) _ ?_ ?_ _ _ ⟨rfl, fun e he => let ⟨k, h1, _⟩ := hko e (by simpa using he); ⟨k, h1⟩⟩)
    · rintro x rest b s' ⟨rfl, hk⟩
      obtain ⟨k, hx⟩ := hk x List.mem_cons_self
      have hrest := fun e he => hk e (List.mem_cons_of_mem _ he)
      rcases keyIs_shape (show keyIs k x.key = true from hx) with ⟨i, t, _, ek⟩ | ⟨z, t, _, ek⟩
      · rw [ek]; exact wpAny_pure ⟨rfl, hrest⟩
      · rw [ek]; exact wpAny_pure ⟨rfl, hrest⟩
    · rintro b s' ⟨rfl, _⟩
      exact loop
  · exact loop
end
/-! ### an object that is being made, held by the others -/
theorem ne_of_G {G : GD} {a b : Addr} {d : D} (h : G a = some d) (h' : G b = none) : a ≠ b := fun z => by subst z; rw [h] at h'; cases h'
theorem Sta.tbegin {K : PySem.W.Frag} {F0 T F : Hp} {G : GD} {H : Hp} {r : Env2} {σ : L2.St} (S : Sta K F0 T F G H r σ) {L : Addr} (hL : H L = none) (o : HO) (h0 : F0 L = none) : Sta K F0 (upd T L o) F G (upd H L o) r σ := by
  obtain ⟨f1, f2, f3⟩ := S.bas.freshF hL
  have Sb := S.newH (o := o) hL
  refine ⟨⟨Sb.bas.ff, fun q u hq => ?_, Sb.bas.fh, Sb.bas.gh, Sb.bas.fg, fun q u hq => ?_, fun q u hq => ?_⟩, Sb.len, fun i s hs => ?_, Sb.ap⟩
  · rw [upd_ne (ne_of_none hq f1)]; exact Sb.bas.ft q u hq
  · rw [upd_ne (ne_of_G hq f2)]; exact Sb.bas.gt q u hq
  · by_cases hq' : q = L
    · subst hq'; rw [upd_same] at hq ⊢; exact hq
    · rw [upd_ne hq'] at hq; exact Sb.bas.tk q u hq
  · have hh := Sb.sl i s hs
    cases s with
    | no => trivial
    | sh d => exact hh
    | own d =>
      obtain ⟨p, k1, k2, k3, k4, k5⟩ := hh
      have hp : p ≠ L := fun z => by subst z; exact S.freshR hL i d hs k1
      exact ⟨p, k1, k2, k3, k4, by rw [upd_ne hp]; exact k5⟩
theorem Sta.tF {K : PySem.W.Frag} {F0 T F : Hp} {G : GD} {H : Hp} {r : Env2} {σ : L2.St} {L : Addr} {o : HO} (S : Sta K F0 (upd T L o) F G H r σ) (h0 : F0 L = none) : F L = none ∧ G L = none ∧ H L = some o := by
  refine ⟨?_, ?_, S.bas.tk L o upd_same⟩
  · cases e : F L with
    | none => rfl
    | some u =>
      rcases S.bas.ft L u e with z | z
      · rw [h0] at z; cases z
      · rw [upd_same] at z; cases z
  · cases e : G L with
    | none => rfl
    | some u => have z := S.bas.gt L u e; rw [upd_same] at z; cases z
theorem Sta.tput {K : PySem.W.Frag} {F0 T F : Hp} {G : GD} {H : Hp} {r : Env2} {σ : L2.St} {L : Addr} {o : HO} (S : Sta K F0 (upd T L o) F G H r σ) (h0 : F0 L = none) (o' : HO) : Sta K F0 (upd T L o') F G (upd H L o') r σ := by
  obtain ⟨fL, gL, _⟩ := S.tF h0
  refine ⟨⟨S.bas.ff, fun q u hq => ?_, fun q u hq => ?_, fun q u hq => ?_, S.bas.fg, fun q u hq => ?_, fun q u hq => ?_⟩, S.len, fun i s hs => ?_, S.ap⟩
  · have n := ne_of_none hq fL
    have := S.bas.ft q u hq
    rw [upd_ne n] at this ⊢
    exact this
  · rw [upd_ne (ne_of_none hq fL)]; exact S.bas.fh q u hq
  · exact (S.bas.gh q u hq).mono (Ex.refl _) fun o ho => by rw [upd_ne (ne_of_G hq gL)]; exact ho
  · have n := ne_of_G hq gL
    have := S.bas.gt q u hq
    rw [upd_ne n] at this ⊢
    exact this
  · by_cases hqL : q = L
    · subst hqL; rw [upd_same] at hq ⊢; exact hq
    · rw [upd_ne hqL] at hq ⊢
      exact S.bas.tk q u (by rw [upd_ne hqL]; exact hq)
  · have hh := S.sl i s hs
    cases s with
    | no => trivial
    | sh d => exact hh
    | own d =>
      obtain ⟨p, k1, k3, k4, k5, k6⟩ := hh
      have hpL : p ≠ L := fun zz => by subst zz; rw [upd_same] at k6; cases k6
      rw [upd_ne hpL] at k6
      exact ⟨p, k1, k3.mono (Ex.refl _) (fun u hu => by rw [upd_ne hpL]; exact hu), k4, k5, by rw [upd_ne hpL]; exact k6⟩
theorem Sta.tend {K : PySem.W.Frag} {F0 T F : Hp} {G : GD} {H : Hp} {r : Env2} {σ : L2.St} {L : Addr} {o : HO} (S : Sta K F0 (upd T L o) F G H r σ) (h0 : F0 L = none) (hT : T L = none) : Sta K F0 T F G H r σ ∧ ∀ (i : Nat) (e : D), r[i]? = some (.own e) → σ[i]? ≠ some (some (.ref L)) := by
  have tsub : ∀ q u, T q = some u → upd T L o q = some u := fun q u hq => by rw [upd_ne (ne_of_none hq hT)]; exact hq
  have tdown : ∀ q, upd T L o q = none → T q = none := fun q hq => by
    cases hf : T q with
    | none => rfl
    | some u => rw [tsub q u hf] at hq; cases hq
  refine ⟨⟨⟨S.bas.ff, fun q u hq => ?_, S.bas.fh, S.bas.gh, S.bas.fg, fun q u hq => tdown q (S.bas.gt q u hq), fun q u hq => S.bas.tk q u (tsub q u hq)⟩, S.len, fun i s hs => ?_, S.ap⟩, fun i e he z => ?_⟩
  · exact (S.bas.ft q u hq).imp id (tdown q)
  · have hh := S.sl i s hs
    cases s with
    | no => trivial
    | sh d => exact hh
    | own d => obtain ⟨p, k1, k2, k3, k4, k5⟩ := hh; exact ⟨p, k1, k2, k3, k4, tdown p k5⟩
  · obtain ⟨p, k1, _, _, _, k5⟩ := S.ownS he
    rw [z] at k1; cases k1
    rw [upd_same] at k5; cases k5
/-! ### {**a, **b} -/
section
variable {X : Cy} {a b : Expr} {ta tb : TE} {pos : Pos} {r : Env2} {G : GD}
theorem d_merge {pins : List (Addr × Obj)} {σ : L2.St} {H : Hp} {s : Shared} {A : Around} {E : Value → Shared → Prop} {D p : Addr} {acc kvs : List (Key × V)} {Q : Unit → Shared → Prop} (I : Inv X pins σ H s) (hD : H D = some (.dK acc)) (hp : Rd H p (.dK kvs)) (hne : p ≠ D) (hsz : acc.length + kvs.length ≤ sizeLine)
    (q : ∀ s', Inv X pins σ (upd H D (.dK (mergeK acc kvs))) s' → Q () s') : wpAny (model X.prog X.w) A (mergeMapping D (.ref p) false) Q E s := by
  obtain ⟨z, lo, vs, rel, dd⟩ := dk_of I.hok hD
  obtain ⟨z', lo', ws, rel', dd'⟩ := dk_rd I.hok hp
  have l1 := rel.length
  have l2 := rel'.length
  refine merge_ok hne.symm lo' dd dd' (fun h' dm hs => q _ ?_) (by omega)
  have he : ∃ o, h'.get? D = some o := let ⟨o, _, _, ho, _⟩ := dm; ⟨o, ho⟩
  exact d_write I (by rw [hD]; exact True.intro) hs he (dk_new (by have := length_mergeK kvs acc; omega) lo (rel'.merge rel) dm)
def tMrg (ta tb : TE) : TE := fun σ H Q => ∀ D, H D = none → ta σ (upd H D (.dK [])) fun x H1 => ∃ p kvs, x = .ref p ∧ Rd H1 p (.dK kvs) ∧ p ≠ D ∧ H1 D = some (.dK []) ∧ kvs.length ≤ LIM2 ∧
  tb σ (upd H1 D (.dK (mergeK [] kvs))) fun y H2 => ∃ q kws, y = .ref q ∧ Rd H2 q (.dK kws) ∧ q ≠ D ∧ H2 D = some (.dK (mergeK [] kvs)) ∧ kws.length ≤ LIM2 ∧ Q (.ref D) (upd H2 D (.dK (mergeK (mergeK [] kvs) kws)))
theorem pe_mrg (ha : PE X a ta) (hb : PE X b tb) : PE X (.Dict [none, none] [a, b] pos) (tMrg ta tb) := by
  refine ⟨fun pins s σ H Q I h => ?_⟩
  have big : ∀ {n m : Nat}, n ≤ LIM2 → m ≤ LIM2 → n + m ≤ sizeLine := fun h1 h2 => by
    have := sizeLine_eq
    unfold LIM2 at h1 h2
    omega
  rw [arm_eval_Dict]
  refine wpAny_bind (wpAny_standAt ?_)
  show wpAny _ _ (dictDisplay [(none, do let x ← eval a X.env; standAt pos; pure x), (none, do let x ← eval b X.env; standAt pos; pure x)]) _ _ _
  unfold dictDisplay
  simp only [List.forIn_cons, List.forIn_nil, List.isEmpty_nil, if_true, bind_assoc, pure_bind]
  refine wpAny_bind (wpAny_alloc ?_)
  have I0 : Inv X pins σ (upd H s.heap.objs.size (.dK [])) { s with heap := s.heap.push { cls := .type "dict", data := .dict #[] } } :=
    I.laid (a := s.heap.objs.size) (o := .dK []) (t' := s.toks) (fun _ _ q => Heap.get?_push_of_some _ q) (Nat.le_refl _) (dk_empty s.heap I.big)
  have h0 := h _ (I.hok.fresh (Nat.le_refl _))
  generalize s.heap.objs.size = D at I0 h0 ⊢
  refine wpAny_bind (wpAny_holding (wpAny_bind (thn (ha.run pins _ σ _ _ I0 h0) fun u s1 ⟨x, H1, I1, rx, p, kvs, ex, hp, hpD, hD1, hl1, h1⟩ => wpAny_bind (wpAny_standAt (wpAny_pure ?_)))))
  subst ex
  obtain rfl : u = Value.ref p := rx
  refine wpAny_bind (wpAny_onRaise (wpAny_tryCatch (wpAny_onRaise (wpAny_holding (d_merge I1 hD1 hp hpD (big (Nat.zero_le _) hl1) fun s2 I2 => ?_)))))
  refine wpAny_bind (wpAny_holding (wpAny_bind (thn (hb.run pins _ σ _ _ I2 h1) fun u2 s3 ⟨y, H3, I3, ry, p2, kws, ey, hp2, hpD2, hD3, hl3, h3⟩ => wpAny_bind (wpAny_standAt (wpAny_pure ?_)))))
  subst ey
  obtain rfl : u2 = Value.ref p2 := ry
  have hm := length_mergeK kvs ([] : List (Key × V))
  refine wpAny_bind (wpAny_onRaise (wpAny_tryCatch (wpAny_onRaise (wpAny_holding (d_merge I3 hD3 hp2 hpD2 (big (by rw [List.length_nil] at hm; omega) hl3) fun s4 I4 => ?_)))))
  exact wpAny_pure ⟨.ref D, _, I4, rfl, h3⟩
theorem we_mrg {Q : Res → Env2 → GD → Prop} (h : WE X a r G fun x r1 G1 => ∃ acc r2, fz r1 x = some (dicD acc, r2) ∧ acc.length ≤ LIM2 ∧ WE X b r2 G1 fun y r3 G3 => ∃ bcc r4, fz r3 y = some (dicD bcc, r4) ∧ bcc.length ≤ LIM2 ∧ Q (.fr (dicD (bcc.foldl (fun acc kv => putD acc kv.1 kv.2) (acc.foldl (fun acc kv => putD acc kv.1 kv.2) [])))) r4 G3) :
    WE X (.Dict [none, none] [a, b] pos) r G Q := fun F0 T F H σ lk S => Run.of (pe_mrg peR peR) fun L hD => by
  obtain ⟨f1, f2, f3⟩ := S.bas.freshF hD
  have f0 : F0 L = none := by
    cases e : F0 L with
    | none => rfl
    | some u => rw [S.bas.ff L u e] at f1; cases f1
  have go : ∀ {F1 : Hp} {v : V} {acc : List (Key × D)}, F1 L = none → Rep X.K F1 (dicD acc) v → ∃ p us, v = .ref p ∧ Rd F1 p (.dK us) ∧ p ≠ L ∧ DRep X.K F1 acc us := fun {F1 v acc} hF rp => by
    obtain ⟨p, ob, vs, e1, e2, e3, e4⟩ := rp
    refine ⟨p, _, e1, .inr ⟨ob, e2⟩, fun z => ?_, ?_⟩
    · subst z
      rw [hF] at e2; cases e2
    · have := DRep.of e3 e4
      rw [zip_maps] at this
      exact this
  refine (h F0 _ F _ σ (lk.ext (Ex.new f3)) (S.tbegin hD (.dK []) f0)).mono fun v H1 ⟨x, r1, G1, F1, e1, S1, k1, acc, r2, q1, hl1, q2⟩ => ?_
  obtain ⟨Fa, ea, Sa, rp⟩ := S1.fz k1 q1
  obtain ⟨t1, t2, t3⟩ := Sa.tF f0
  obtain ⟨p, us, rfl, z1, z2, z3⟩ := go t1 rp
  refine ⟨p, us, rfl, Sa.bas.fh.rd z1, z2, t3, by rw [z3.length]; exact hl1, ?_⟩
  refine (q2 F0 _ Fa _ σ (lk.ext (Ex.new f3)) (Sa.tput f0 _)).mono fun v3 H3 ⟨y, r3, G3, F3, e3, S3, k3, bcc, r4, q3, hl3, q4⟩ => ?_
  obtain ⟨Fb, eb, Sb, rp3⟩ := S3.fz k3 q3
  obtain ⟨u1, u2, u3⟩ := Sb.tF f0
  obtain ⟨p2, ws, rfl, y1, y2, y3⟩ := go u1 rp3
  refine ⟨p2, ws, rfl, Sb.bas.fh.rd y1, y2, u3, by rw [y3.length]; exact hl3, ?_⟩
  obtain ⟨Sc, ow⟩ := (Sb.tput f0 (.dK (mergeK (mergeK [] us) ws))).tend f0 f3
  exact ⟨.fr (dicD _), r4, G3, Fb, ((e1.trans ea).trans e3).trans eb, Sc, ⟨L, rfl, own_dicD (DRep.fold (DRep.fold (acc := []) (ws := []) rfl (z3.mono (e3.trans eb))) y3) upd_same, u1, u2, f3, ow⟩, q4⟩
end

/-! ### mirrors: what the defs compute, as plain functions -/
/-- an exception: the number of its class, its values by name -/
structure Xm where
  n : Nat
  fs : List (Str × D)
inductive Out (α : Type) where
  | ok (a : α) | ex (x : Xm) | no
namespace Out
variable {α β σ ρ : Type}
def sat (m : Out α) (Q : α → Prop) (E : Xm → Prop) : Prop := match m with
  | .ok a => Q a
  | .ex x => E x
  | .no => False
def bind (m : Out α) (f : α → Out β) : Out β := match m with
  | .ok a => f a
  | .ex x => .ex x
  | .no => .no
/-- no exception is let out -/
def nox (m : Out α) : Out α := match m with
  | .ok a => .ok a
  | _ => .no
@[irreducible] def guard (p : Prop) [Decidable p] : Out Unit := if p then .ok () else .no
def get (o : Option α) : Out α := match o with
  | some a => .ok a
  | none => .no
theorem sat.imp {m : Out α} {Q Q' : α → Prop} {E E' : Xm → Prop} (h : m.sat Q E) (k : ∀ a, Q a → Q' a) (e : ∀ x, E x → E' x) : m.sat Q' E' := by
  cases m with
  | ok a => exact k a h
  | ex x => exact e x h
  | no => exact h
theorem sb {m : Out α} {f : α → Out β} {Q : β → Prop} {E : Xm → Prop} (h : (m.bind f).sat Q E) : m.sat (fun a => (f a).sat Q E) E := by
  cases m with
  | ok a => exact h
  | ex x => exact h
  | no => exact h
theorem nx {m : Out α} {Q : α → Prop} {E E' : Xm → Prop} (h : m.nox.sat Q E) : m.sat Q E' := by
  cases m with
  | ok a => exact h
  | ex x => exact h.elim
  | no => exact h
theorem gd {p : Prop} [Decidable p] {f : Unit → Out β} {Q : β → Prop} {E : Xm → Prop} (h : ((guard p).bind f).sat Q E) : p ∧ (f ()).sat Q E := by
  by_cases hp : p
  · unfold guard at h; rw [if_pos hp] at h; exact ⟨hp, h⟩
  · unfold guard at h; rw [if_neg hp] at h; exact h.elim
theorem gt {o : Option α} {f : α → Out β} {Q : β → Prop} {E : Xm → Prop} (h : ((get o).bind f).sat Q E) : ∃ a, o = some a ∧ (f a).sat Q E := by
  cases o with
  | none => exact h.elim
  | some a => exact ⟨a, rfl, h⟩
theorem ok_sat {a : α} {f : α → Out β} {Q : β → Prop} {E : Xm → Prop} (h : ((Out.ok a).bind f).sat Q E) : (f a).sat Q E := h
theorem ite_sat {c : Prop} [Decidable c] {a b : Out α} {Q : α → Prop} {E : Xm → Prop} (h : (if c then a else b).sat Q E) : (c → a.sat Q E) ∧ (¬ c → b.sat Q E) :=
  ⟨fun hc => by rw [if_pos hc] at h; exact h, fun hc => by rw [if_neg hc] at h; exact h⟩
theorem iteb {c : Bool} {a b : Out α} {Q : α → Prop} {E : Xm → Prop} (h : (if c = true then a else b).sat Q E) : (c = true → a.sat Q E) ∧ (c = false → b.sat Q E) :=
  ⟨fun hc => by rw [if_pos hc] at h; exact h, fun hc => by rw [if_neg (by rw [hc]; exact Bool.false_ne_true)] at h; exact h⟩
@[simp] theorem bind_ok (a : α) (f : α → Out β) : (Out.ok a).bind f = f a := rfl
@[simp] theorem bind_ex (x : Xm) (f : α → Out β) : (Out.ex x : Out α).bind f = .ex x := rfl
@[simp] theorem bind_no (f : α → Out β) : (Out.no : Out α).bind f = .no := rfl
@[simp] theorem nox_ok (a : α) : (Out.ok a).nox = .ok a := rfl
@[simp] theorem get_some (a : α) : Out.get (some a) = .ok a := rfl
theorem guard_pos {p : Prop} [Decidable p] (h : p) : guard p = .ok () := by unfold guard; exact if_pos h
theorem sat_ok {a : α} {Q : α → Prop} {E : Xm → Prop} : (Out.ok a).sat Q E ↔ Q a := Iff.rfl
/-- a loop without a return -/
def fold (f : σ → α → Out σ) : List α → σ → Out σ
  | [], s => .ok s
  | x :: xs, s => (f s x).bind (fold f xs)
/-- how a block with a return ends -/
inductive Rt (σ ρ : Type) where
  | nx (s : σ) | rt (v : ρ)
/-- a loop with a return -/
def loop (f : σ → α → Out (Rt σ ρ)) : List α → σ → Out (Rt σ ρ)
  | [], s => .ok (.nx s)
  | x :: xs, s => (f s x).bind fun t => match t with
    | .nx s' => loop f xs s'
    | .rt v => .ok (.rt v)
/-- a while, of at most so many turns -/
def whl (c : σ → Out Bool) (f : σ → Out σ) : Nat → σ → Out σ
  | 0, _ => .no
  | n + 1, s => (c s).bind fun b => if b = true then (f s).bind (whl c f n) else .ok s
def whlR (c : σ → Out Bool) (f : σ → Out (Rt σ ρ)) : Nat → σ → Out (Rt σ ρ)
  | 0, _ => .no
  | n + 1, s => (c s).bind fun b => if b = true then (f s).bind (fun t => match t with
    | .nx s' => whlR c f n s'
    | .rt v => .ok (.rt v)) else .ok (.nx s)
/-- a comprehension, its items by a test and an element -/
def comp (f : α → Out (Option β)) : List α → Out (List β)
  | [] => .ok []
  | x :: xs => (f x).bind fun o => (comp f xs).bind fun r => .ok (match o with
    | some y => y :: r
    | none => r)
/-- .. that goes on from some items -/
def compA (f : α → Out (Option β)) : List α → List β → Out (List β)
  | [], acc => .ok acc
  | x :: xs, acc => (f x).bind fun o => compA f xs (match o with
    | some y => acc ++ [y]
    | none => acc)
theorem compA_eq (f : α → Out (Option β)) : ∀ (xs : List α) (acc : List β), compA f xs acc = (comp f xs).bind fun r => .ok (acc ++ r)
  | [], acc => by unfold compA comp; rw [bind_ok, List.append_nil]
  | x :: xs, acc => by
    unfold compA comp
    cases f x with
    | ok o =>
      rw [bind_ok, bind_ok, compA_eq f xs]
      cases comp f xs with
      | ok r =>
        rw [bind_ok, bind_ok, bind_ok]
        cases o with
        | some y => simp
        | none => rfl
      | ex x => rfl
      | no => rfl
    | ex x => rfl
    | no => rfl
/-- .. with a state -/
def compS (f : σ → α → Out (Option β × σ)) : List α → List β → σ → Out (List β × σ)
  | [], acc, s => .ok (acc, s)
  | x :: xs, acc, s => (f s x).bind fun p => compS f xs (match p.1 with
    | some y => acc ++ [y]
    | none => acc) p.2
end Out
open Out (Rt)

/-! ### codes -/
abbrev eI : Int → D := D.int
abbrev eB : Bool → D := D.bl
abbrev eS : Str → D := D.str
abbrev eU : Unit → D := fun _ => .non
abbrev eL {α : Type} (f : α → D) : List α → D := fun xs => .lst (xs.map f)
abbrev eT {α : Type} (f : α → D) : List α → D := fun xs => .tup (xs.map f)
abbrev eP {α β : Type} (f : α → D) (g : β → D) : α × β → D := fun p => .tup [f p.1, g p.2]
abbrev eP3 {α β γ : Type} (f : α → D) (g : β → D) (h : γ → D) : α × β × γ → D := fun p => .tup [f p.1, g p.2.1, h p.2.2]
abbrev eP1 {α : Type} (f : α → D) : α → D := fun p => .tup [f p]
abbrev eO {α : Type} (f : α → D) : Option α → D := fun o => match o with
  | none => .non
  | some a => f a
abbrev kI : Int → Key := Sum.inl
abbrev kS : Str → Key := Sum.inr
def eDl {κ ν : Type} (k : κ → Key) (f : ν → D) (kvs : List (κ × ν)) : List (Key × D) := kvs.map fun p => (k p.1, f p.2)
abbrev eD {κ ν : Type} (k : κ → Key) (f : ν → D) : List (κ × ν) → D := fun kvs => .dic (kvs.map fun p => k p.1) (kvs.map fun p => f p.2)
theorem eD_dicD {κ ν : Type} (k : κ → Key) (f : ν → D) (kvs : List (κ × ν)) : dicD (eDl k f kvs) = eD k f kvs := by
  unfold dicD eDl
  rw [List.map_map, List.map_map]; rfl

/-! ### promises by mirrors -/
/-- the class of an exception of the mirrors -/
def xnOf (cx : Nat → Addr) (m : Xm) : Exn := ⟨.ref (cx m.n), m.fs⟩
/-- a def without draws -/
def FM (cx : Nat → Addr) {A R : Type} (en : A → List D) (er : R → Res) (f : A → Out R) : FSp := fun ds G post px => ∃ a : A, ds = en a ∧ (f a).sat (fun v => post (er v) G) (fun m => px (xnOf cx m) G)
/-- the box of draws -/
abbrev Bx := List Int × Int
def bxG (G0 : GD) (b g : Addr) (x : Bx) : GD := updG (updG G0 g (.lst (x.1.map D.int))) b (.lst [.adr g, .int x.2])
/-- a def with the box as its first argument; no exception leaves it -/
def FB {A R : Type} (en : A → List D) (er : R → Res) (f : A → Bx → Out (R × Bx)) : FSp := fun ds G post _ => ∃ (a : A) (G0 : GD) (b g : Addr) (x : Bx), g ≠ b ∧ ds = .adr b :: en a ∧ G = bxG G0 b g x ∧ (f a x).sat (fun v => post (er v.1) (bxG G0 b g v.2)) (fun _ => False)
theorem bxG_b {G0 : GD} {b g : Addr} {x : Bx} : bxG G0 b g x b = some (.lst [.adr g, .int x.2]) := updG_same
theorem bxG_g {G0 : GD} {b g : Addr} {x : Bx} (h : g ≠ b) : bxG G0 b g x g = some (.lst (x.1.map D.int)) := by unfold bxG; rw [updG_ne h, updG_same]
theorem bxG_setB {G0 : GD} {b g : Addr} {x : Bx} {st : Int} : updG (bxG G0 b g x) b (.lst [.adr g, .int st]) = bxG G0 b g (x.1, st) := by
  unfold bxG
  funext a
  by_cases h : a = b
  · subst h; rw [updG_same, updG_same]
  · rw [updG_ne h, updG_ne h, updG_ne h]
theorem bxG_setG {G0 : GD} {b g : Addr} {x : Bx} {ns : List Int} (h : g ≠ b) : updG (bxG G0 b g x) g (.lst (ns.map D.int)) = bxG G0 b g (ns, x.2) := by
  unfold bxG
  funext a
  by_cases h1 : a = g
  · subst h1; rw [updG_same, updG_ne h, updG_same]
  · rw [updG_ne h1]
    by_cases h2 : a = b
    · subst h2; rw [updG_same, updG_same]
    · rw [updG_ne h2, updG_ne h1, updG_ne h2, updG_ne h1]

section
variable {X : Cy} {e a b c o tg kx vx elt : Expr} {es ifs : List Expr} {st : Stmt} {sts rest body orelse : List Stmt} {r : Env2} {G : GD} {pos tpos apos cpos p0 : Pos} {D0 : EndsD} {α β γ σT ρ : Type}
/-! ### blocks -/
theorem wb_env (R : Env2) (hr : r = R) (k : WB X sts R G D0) : WB X sts r G D0 := by subst hr; exact k
theorem wb_let {e : α} {f : α → Out β} {Q : β → Prop} {E : Xm → Prop} (h : ((Out.ok e).bind f).sat Q E) (R : α → Env2) (hr : r = R e) (k : ∀ x, (f x).sat Q E → WB X sts (R x) G D0) : WB X sts r G D0 := by subst hr; exact k e h
theorem WG.weak {d : D} {r' : Env2} {is : List Nat} {Q : Env2 → GD → Prop} (w : Wk r r') (h : WG X tg d r' G is Q) : WG X tg d r G is Q := fun F0 T F H σ v lk S rp => h F0 T F H σ v lk (S.weak w) rp
theorem wb_frz (i : Nat) {d : D} (hi : r[i]? = some (.own d)) (hD : isDic d = false) (h : WB X sts (r.set i (.sh d)) G D0) : WB X sts r G D0 := fun F0 T F H σ lk S pins s I => by
  obtain ⟨F', k1, k2, _⟩ := S.frzSlot hD hi
  exact h F0 T F' H σ lk k2 pins s I
theorem we_frz {Q : Res → Env2 → GD → Prop} (h : WE X e r G fun x r1 G1 => ∃ d r2, fz r1 x = some (d, r2) ∧ Q (.sh d) r2 G1) : WE X e r G Q := fun F0 T F H σ lk S =>
  (h F0 T F H σ lk S).mono fun v H1 ⟨x, r1, G1, F1, e1, S1, k1, d, r2, q1, q2⟩ => by
    obtain ⟨F2, e2, S2, rp⟩ := S1.fz k1 q1
    exact ⟨.sh d, r2, G1, F2, e1.trans e2, S2, rp, q2⟩
/-- what an end of a block with a state says -/
def AtS (env : σT → Env2) (gg : σT → GD) (Q : σT → Prop) : Env2 → GD → Prop := fun r G => ∃ s, Wk r (env s) ∧ G = gg s ∧ Q s
theorem wb_join (env : σT → Env2) (gg : σT → GD) {m : Out σT} {f : σT → Out β} {Q : β → Prop} {E : Xm → Prop} (h : (m.bind f).sat Q E)
    (hs : ∀ Q' : σT → Prop, m.sat Q' E → WS X st r G { D0 with nx := AtS env gg Q' }) (k : ∀ s, (f s).sat Q E → WB X rest (env s) (gg s) D0) : WB X (st :: rest) r G D0 :=
  wb_cut (AtS env gg fun s => (f s).sat Q E) (hs _ (Out.sb h)) fun r1 G1 ⟨s, w, hg, q⟩ => by
    subst hg
    exact (k s q).weak w
/-- .. with a return on some way -/
theorem wb_joinR (env : σT → Env2) (gg : σT → GD) (er : ρ → Res) (gr : ρ → GD) {m : Out (Rt σT ρ)} {f : Rt σT ρ → Out β} {Q : β → Prop} {E : Xm → Prop} (h : (m.bind f).sat Q E)
    (hs : ∀ Q' : Rt σT ρ → Prop, m.sat Q' E → WS X st r G { nx := AtS env gg (fun s => Q' (.nx s)), rt := fun y G' => ∃ v, y = er v ∧ G' = gr v ∧ Q' (.rt v), bk := D0.bk, ct := D0.ct })
    (hr : ∀ v, (f (.rt v)).sat Q E → D0.rt (er v) (gr v)) (k : ∀ s, (f (.nx s)).sat Q E → WB X rest (env s) (gg s) D0) : WB X (st :: rest) r G D0 := fun F0 T F H σ lk S => by
  have q := hs _ (Out.sb h) F0 T F H σ lk S
  refine RunB.of (pss_cons psR pbR) (q.mono (fun σ' H' ⟨r', G', F', S', s, w, hg, q⟩ => ?_) (fun v H' ⟨x, G', F', B, rt, v', hx, hg, q⟩ => ?_) (fun _ _ z => z) (fun _ _ z => z))
  · subst hg
    exact k s q F0 T F' H' σ' lk (S'.weak w)
  · subst hx hg
    exact ⟨er v', gr v', F', B, rt, hr v' q⟩
/-! ### loops -/
theorem drop_at {xs : List α} {k : Nat} {x : α} (hx : xs[k]? = some x) : xs.drop k = x :: xs.drop (k + 1) := by
  obtain ⟨hk, hxk⟩ := List.getElem?_eq_some_iff.mp hx
  rw [List.drop_eq_getElem_cons hk, hxk]
theorem map_at {en : α → D} {xs : List α} {k : Nat} {d : D} (hd : (xs.map en)[k]? = some d) : ∃ x, xs[k]? = some x ∧ d = en x := by
  rw [List.getElem?_map] at hd
  cases hx : xs[k]? with
  | none => rw [hx] at hd; cases hd
  | some x => rw [hx] at hd; cases hd; exact ⟨x, rfl, rfl⟩
theorem wb_forO (is : List Nat) (env : σT → Env2) (gg : σT → GD) (en : α → D) (hp : PassesOwn (model X.prog X.w) X.A X.env X.xe) (hc : X.calm = true)
    (h : WI X tg e r G fun ds r2 G1 => ∃ (xs : List α) (s0 : σT) (f : σT → α → Out σT) (kk : σT → Out β) (Q : β → Prop) (E : Xm → Prop), ds = xs.map en ∧ Wk r2 (env s0) ∧ G1 = gg s0 ∧ ((Out.fold f xs s0).bind kk).sat Q E ∧
      (∀ (s : σT) (x : α) (Q' : σT → Prop), (f s x).sat Q' E → WG X tg (en x) (env s) (gg s) is fun r4 G4 => WB X body r4 G4 { D0 with nx := AtS env gg Q', ct := AtS env gg Q', bk := fun r1 G1 => WB X rest r1 G1 D0 }) ∧
      ∀ s, (kk s).sat Q E → WB X rest (env s) (gg s) D0) (hs : ∀ x, foldedSetIterable e X.env x = pure x := by intro _; rfl) : WB X (.For tg e body [] pos :: rest) r G D0 :=
  wb_cons (ws_for (is := is) hp hc (h.mono fun ds r2 G1 ⟨xs, s0, f, kk, Q, E, hd, w0, hg, h0, hb, hn⟩ => by
    subst hd hg
    refine ⟨fun k r3 G3 => AtS env gg (fun s => ((Out.fold f (xs.drop k) s).bind kk).sat Q E) r3 G3, ⟨s0, w0, rfl, h0⟩, fun k d r3 G3 hd ⟨s, w, hg, hq⟩ => ?_, fun r3 G3 ⟨s, w, hg, hq⟩ => ?_⟩
    · subst hg
      obtain ⟨x, hx, rfl⟩ := map_at hd
      rw [drop_at hx] at hq
      have hq' : (f s x).sat (fun s' => ((Out.fold f (xs.drop (k + 1)) s').bind kk).sat Q E) E := by
        have z : (((f s x).bind (Out.fold f (xs.drop (k + 1)))).bind kk).sat Q E := hq
        cases hf : f s x with
        | ok s' => rw [hf] at z; exact z
        | ex x' => rw [hf] at z; exact z
        | no => rw [hf] at z; exact z
      exact (hb s x _ hq').weak w
    · rw [List.length_map, List.drop_length] at hq
      subst hg
      exact (hn s hq).weak w) hs)
theorem wb_forR (is : List Nat) (env : σT → Env2) (gg : σT → GD) (en : α → D) (er : ρ → Res) (gr : ρ → GD) (hp : PassesOwn (model X.prog X.w) X.A X.env X.xe) (hc : X.calm = true)
    (h : WI X tg e r G fun ds r2 G1 => ∃ (xs : List α) (s0 : σT) (f : σT → α → Out (Rt σT ρ)) (kk : Rt σT ρ → Out β) (Q : β → Prop) (E : Xm → Prop), ds = xs.map en ∧ Wk r2 (env s0) ∧ G1 = gg s0 ∧ ((Out.loop f xs s0).bind kk).sat Q E ∧
      (∀ (s : σT) (x : α) (Q' : Rt σT ρ → Prop), (f s x).sat Q' E → WG X tg (en x) (env s) (gg s) is fun r4 G4 => WB X body r4 G4 { nx := AtS env gg (fun s => Q' (.nx s)), ct := AtS env gg (fun s => Q' (.nx s)), bk := fun r1 G1 => WB X rest r1 G1 D0, rt := fun y G' => ∃ v, y = er v ∧ G' = gr v ∧ Q' (.rt v) }) ∧
      (∀ v, (kk (.rt v)).sat Q E → D0.rt (er v) (gr v)) ∧ ∀ s, (kk (.nx s)).sat Q E → WB X rest (env s) (gg s) D0) (hs : ∀ x, foldedSetIterable e X.env x = pure x := by intro _; rfl) : WB X (.For tg e body [] pos :: rest) r G D0 :=
  wb_cons (ws_for (is := is) hp hc (h.mono fun ds r2 G1 ⟨xs, s0, f, kk, Q, E, hd, w0, hg, h0, hb, hr, hn⟩ => by
    subst hd hg
    refine ⟨fun k r3 G3 => AtS env gg (fun s => ((Out.loop f (xs.drop k) s).bind kk).sat Q E) r3 G3, ⟨s0, w0, rfl, h0⟩, fun k d r3 G3 hd ⟨s, w, hg, hq⟩ => ?_, fun r3 G3 ⟨s, w, hg, hq⟩ => ?_⟩
    · subst hg
      obtain ⟨x, hx, rfl⟩ := map_at hd
      rw [drop_at hx] at hq
      have hq' : (f s x).sat (fun t => match t with
          | .nx s' => ((Out.loop f (xs.drop (k + 1)) s').bind kk).sat Q E
          | .rt v => (kk (.rt v)).sat Q E) E := by
        have z : (((f s x).bind fun t => match t with
          | .nx s' => Out.loop f (xs.drop (k + 1)) s'
          | .rt v => .ok (.rt v)).bind kk).sat Q E := hq
        cases hf : f s x with
        | ok t =>
          rw [hf] at z
          cases t with
          | nx s' => exact z
          | rt v => exact z
        | ex x' => rw [hf] at z; exact z
        | no => rw [hf] at z; exact z
      refine WG.weak w fun F0 T F H σ v lk S rp => ?_
      have q := hb s x _ hq' F0 T F H σ v lk S rp
      refine fun pins s1 u I rv => wpAny_mono (q pins s1 u I rv) (fun _ _ ⟨σ', H', I', hw, r', G', F', e', S', q'⟩ => ⟨σ', H', I', hw, r', G', F', e', S', ?_⟩) fun _ _ x => x
      refine WB.mono q' (fun _ _ z => z) (fun y G' ⟨v, hy, hG, z⟩ => ?_) (fun _ _ z => z) (fun _ _ z => z)
      subst hy hG
      exact hr v z
    · rw [List.length_map, List.drop_length] at hq
      subst hg
      exact (hn s hq).weak w) hs)
/-- while -/
theorem wb_whlO (n : Nat) (env : σT → Env2) (gg : σT → GD) (s0 : σT) (hp : PassesOwn (model X.prog X.w) X.A X.env X.xe) {cc : σT → Out Bool} {f : σT → Out σT} {kk : σT → Out β} {Q : β → Prop} {E : Xm → Prop} (w0 : Wk r (env s0)) (hg : G = gg s0) (h0 : ((Out.whl cc f n s0).bind kk).sat Q E)
    (hc : ∀ (s : σT) (Q' : Bool → Prop), (cc s).sat Q' E → WT X c (env s) (gg s) fun d r2 G2 => Wk r2 (env s) ∧ G2 = gg s ∧ Q' d)
    (hb : ∀ (s : σT) (Q' : σT → Prop), (f s).sat Q' E → WB X body (env s) (gg s) { D0 with nx := AtS env gg Q', ct := AtS env gg Q', bk := fun r1 G1 => WB X rest r1 G1 D0 })
    (hn : ∀ s, (kk s).sat Q E → WB X rest (env s) (gg s) D0) : WB X (.While c body [] pos :: rest) r G D0 := by
  subst hg
  refine wb_cons (ws_while hp (fun m r1 G1 => AtS env gg (fun s => ((Out.whl cc f m s).bind kk).sat Q E) r1 G1) n ⟨s0, w0, rfl, h0⟩ fun m r1 G1 ⟨s, w, hg, hq⟩ => ?_)
  subst hg
  cases m with
  | zero => exact hq.elim
  | succ m =>
    have hq1 : (cc s).sat (fun b => if b = true then (f s).sat (fun s' => ((Out.whl cc f m s').bind kk).sat Q E) E else (kk s).sat Q E) E := by
      have z : (((cc s).bind fun b => if b = true then (f s).bind (Out.whl cc f m) else .ok s).bind kk).sat Q E := hq
      cases hcc : cc s with
      | ok b =>
        rw [hcc] at z
        cases b with
        | true =>
          have z' : (((f s).bind (Out.whl cc f m)).bind kk).sat Q E := z
          show (f s).sat _ E
          cases hf : f s with
          | ok s' => rw [hf] at z'; exact z'
          | ex x' => rw [hf] at z'; exact z'
          | no => rw [hf] at z'; exact z'
        | false => exact z
      | ex x' => rw [hcc] at z; exact z
      | no => rw [hcc] at z; exact z
    have q := hc s _ hq1
    refine fun F0 T F H σ lk S => (q F0 T F H σ lk (S.weak w)).mono fun d H2 ⟨r2, G2, F2, e2, S2, w2, hg2, q2⟩ => ?_
    subst hg2
    refine ⟨env s, gg s, F2, e2, S2.weak w2, fun hd => ?_, fun hd => ?_⟩
    · subst hd
      exact WB.mono (hb s _ q2) (fun r3 G3 z => ⟨m, Nat.lt_succ_self _, z⟩) (fun _ _ z => z) (fun _ _ z => z) (fun r3 G3 z => ⟨m, Nat.lt_succ_self _, z⟩)
    · subst hd
      exact hn s q2
end

open Out (Rt)
/-! ### dicts of the mirrors -/
section
variable {κ ν : Type} [DecidableEq κ]
def dput (kvs : List (κ × ν)) (k : κ) (v : ν) : List (κ × ν) := if (kvs.any fun p => decide (p.1 = k)) = true then kvs.map (fun p => if p.1 = k then (p.1, v) else p) else kvs ++ [(k, v)]
def dget (kvs : List (κ × ν)) (k : κ) : Option ν := (kvs.find? fun p => decide (p.1 = k)).map (·.2)
def dhas (kvs : List (κ × ν)) (k : κ) : Bool := kvs.any fun p => decide (p.1 = k)
def dmk (kvs : List (κ × ν)) : List (κ × ν) := kvs.foldl (fun acc p => dput acc p.1 p.2) []
end
/-- keys that are told apart -/
def KInj {κ : Type} (k : κ → Key) : Prop := ∀ a b, k a = k b → a = b
theorem kI_inj : KInj kI := fun _ _ h => Sum.inl.inj h
theorem kS_inj : KInj kS := fun _ _ h => Sum.inr.inj h
section
variable {κ ν : Type} [DecidableEq κ] {k : κ → Key} {f : ν → D}
theorem any_key (hk : KInj k) (kvs : List (κ × ν)) (x : κ) : ((eDl k f kvs).any fun kv => decide (kv.1 = k x)) = kvs.any fun p => decide (p.1 = x) := by
  unfold eDl
  rw [List.any_map]
  congr 1
  funext p
  show decide (k p.1 = k x) = decide (p.1 = x)
  by_cases h : p.1 = x
  · rw [h]; simp
  · have : ¬ k p.1 = k x := fun z => h (hk _ _ z)
    simp [h, this]
theorem putD_eDl (hk : KInj k) (kvs : List (κ × ν)) (x : κ) (v : ν) : putD (eDl k f kvs) (k x) (f v) = eDl k f (dput kvs x v) := by
  unfold putD dput
  rw [any_key hk]
  by_cases h : (kvs.any fun p => decide (p.1 = x)) = true
  · rw [if_pos h, if_pos h]
    unfold eDl
    rw [List.map_map, List.map_map]
    congr 1
    funext p
    show (if k p.1 = k x then (k p.1, f v) else (k p.1, f p.2)) = (k (if p.1 = x then (p.1, v) else p).1, f (if p.1 = x then (p.1, v) else p).2)
    by_cases hp : p.1 = x
    · rw [if_pos (by rw [hp]), if_pos hp]
    · rw [if_neg (fun z => hp (hk _ _ z)), if_neg hp]
  · rw [if_neg h, if_neg h]
    unfold eDl
    rw [List.map_append]; rfl
theorem dput_len (kvs : List (κ × ν)) (x : κ) (v : ν) : (dput kvs x v).length ≤ kvs.length + 1 := by
  unfold dput
  split
  · rw [List.length_map]; omega
  · rw [List.length_append]; exact Nat.le_refl _
end
/-- the value at a key -/
def valD (kvs : List (Key × D)) (k : Key) : Option D := (kvs.find? fun kv => decide (kv.1 = k)).map (·.2)
theorem valD_rep {K : PySem.W.Frag} {F : Hp} {k : Key} : ∀ {acc : List (Key × D)} {us : List (Key × V)}, DRep K F acc us → (valD acc k = none ∧ valV us k = none) ∨ ∃ d v, valD acc k = some d ∧ valV us k = some v ∧ Rep K F d v
  | [], us, h => by
    rw [show us = [] from h]; exact .inl ⟨rfl, rfl⟩
  | p :: acc, _, ⟨u, us', h1, h2, h3, h4⟩ => by
    subst h1
    unfold valD valV
    rw [List.find?_cons, List.find?_cons, h2]
    by_cases hk : p.1 = k
    · rw [decide_eq_true hk]
      exact .inr ⟨p.2, u.2, rfl, rfl, h3⟩
    · rw [decide_eq_false hk]
      exact valD_rep h4
theorem valD_eDl {κ ν : Type} [DecidableEq κ] {k : κ → Key} {f : ν → D} (hk : KInj k) (kvs : List (κ × ν)) (x : κ) : valD (eDl k f kvs) (k x) = (dget kvs x).map f := by
  unfold valD dget eDl
  induction kvs with
  | nil => rfl
  | cons p kvs ih =>
    rw [List.map_cons, List.find?_cons, List.find?_cons]
    show (match decide (k p.1 = k x) with | true => some (k p.1, f p.2) | false => _).map _ = _
    by_cases h : p.1 = x
    · rw [decide_eq_true (by rw [h]), decide_eq_true h]; rfl
    · rw [decide_eq_false (fun z => h (hk _ _ z)), decide_eq_false h]; exact ih
theorem dget_isSome {κ ν : Type} [DecidableEq κ] (kvs : List (κ × ν)) (x : κ) : (dget kvs x).isSome = dhas kvs x := by
  unfold dget dhas
  rw [Option.isSome_map]
  induction kvs with
  | nil => rfl
  | cons p kvs ih =>
    rw [List.find?_cons, List.any_cons]
    by_cases h : p.1 = x
    · rw [decide_eq_true h]; rfl
    · rw [decide_eq_false h, Bool.false_or]; exact ih
theorem zip_eDl {κ ν : Type} {k : κ → Key} {f : ν → D} (kvs : List (κ × ν)) : (kvs.map fun p => k p.1).zip (kvs.map fun p => f p.2) = eDl k f kvs := by
  unfold eDl
  induction kvs with
  | nil => rfl
  | cons p kvs ih => rw [List.map_cons, List.map_cons, List.map_cons, List.zip_cons_cons, ih]

section
variable {X : Cy} {e a b c o tg kx vx elt i : Expr} {es ifs : List Expr} {st : Stmt} {sts rest body orelse : List Stmt} {r : Env2} {G : GD} {pos tpos apos cpos p0 : Pos} {D0 : EndsD} {α β γ σT ρ : Type}
theorem vw_kD {K : PySem.W.Frag} {F H : Hp} {k : Key} {v : V} (h : Vw K F H (kD k) v) : v = kV k := by
  cases k with
  | inl n => exact h.int
  | inr x => exact h.str
/-- a dict that is looked at -/
theorem Vw.dics {K : PySem.W.Frag} {F H : Hp} (ex : Ex F H) {ks : List Key} {ds : List D} {v : V} (h : Vw K F H (.dic ks ds) v) : ∃ p us, v = .ref p ∧ Rd H p (.dK us) ∧ DRep K F (ks.zip ds) us := by
  obtain ⟨p, vs, rfl, k1, k2, k3⟩ := h.dic ex
  exact ⟨p, _, rfl, k1, DRep.of k2 k3⟩
def rDIn : R2 := fun y x H Q => ∃ a ov, x = .ref a ∧ DGet H a y ov ∧ Q (.bl ov.isSome) H
theorem op_din {X : Cx} (hu : X.A.units + 1 < cLine) : OpR X (compareOp .In) rDIn := fun pins s σ H y x u v Q I ry rx ⟨a, ov, ex, g, q⟩ => by
  subst ex
  cases (show v = Value.ref a from rx)
  exact d_in hu I g ry fun s' I' => ⟨.bl ov.isSome, H, I', rfl, q⟩
def rDNin : R2 := fun y x H Q => ∃ a ov, x = .ref a ∧ DGet H a y ov ∧ Q (.bl (!ov.isSome)) H
theorem op_dnin {X : Cx} (hu : X.A.units + 1 < cLine) : OpR X (compareOp .NotIn) rDNin := fun pins s σ H y x u v Q I ry rx ⟨a, ov, ex, g, q⟩ => by
  subst ex
  cases (show v = Value.ref a from rx)
  exact d_notIn hu I g ry fun s' I' => ⟨.bl (!ov.isSome), H, I', rfl, q⟩
theorem val_some {K : PySem.W.Frag} {F : Hp} {k : Key} {acc : List (Key × D)} {us : List (Key × V)} (h : DRep K F acc us) : (valV us k).isSome = (valD acc k).isSome := by
  rcases valD_rep (k := k) h with ⟨h1, h2⟩ | ⟨d, v, h1, h2, _⟩
  · rw [h1, h2]; rfl
  · rw [h1, h2]; rfl
theorem opw_din {κ ν : Type} [DecidableEq κ] {k : κ → Key} {f : ν → D} {kvs : List (κ × ν)} {x : κ} {Q : Res → Prop} (hk : KInj k) (hu : X.A.units + 64 < cLine) (q : Q (.sh (.bl (dhas kvs x)))) : OpW X (compareOp .In) (kD (k x)) (eD k f kvs) Q := fun F0 T F G H r σ va vb S h1 h2 => by
  obtain ⟨p, us, rfl, z1, z2⟩ := h2.dics S.bas.fh
  rw [zip_eDl] at z2
  have hv : va = kV (k x) := vw_kD h1
  subst hv
  refine ⟨_, op_din (by omega), p, _, rfl, .inl ⟨us, k x, z1, rfl, rfl⟩, .sh (.bl (dhas kvs x)), F, Ex.refl _, S, ?_, q⟩
  show V.bl _ = V.bl _
  rw [val_some z2, valD_eDl hk, Option.isSome_map, dget_isSome]
theorem opw_dnin {κ ν : Type} [DecidableEq κ] {k : κ → Key} {f : ν → D} {kvs : List (κ × ν)} {x : κ} {Q : Res → Prop} (hk : KInj k) (hu : X.A.units + 64 < cLine) (q : Q (.sh (.bl (!dhas kvs x)))) : OpW X (compareOp .NotIn) (kD (k x)) (eD k f kvs) Q := fun F0 T F G H r σ va vb S h1 h2 => by
  obtain ⟨p, us, rfl, z1, z2⟩ := h2.dics S.bas.fh
  rw [zip_eDl] at z2
  have hv : va = kV (k x) := vw_kD h1
  subst hv
  refine ⟨_, op_dnin (by omega), p, _, rfl, .inl ⟨us, k x, z1, rfl, rfl⟩, .sh (.bl (!dhas kvs x)), F, Ex.refl _, S, ?_, q⟩
  show V.bl _ = V.bl _
  rw [val_some z2, valD_eDl hk, Option.isSome_map, dget_isSome]
/-- d[k] -/
theorem we_dget {κ ν : Type} [DecidableEq κ] {k : κ → Key} {f : ν → D} (hk : KInj k) (hu : X.A.units + 64 < cLine) {Q : Res → Env2 → GD → Prop} (hs : NoSl i)
    (h : WE X o r G fun x r1 G1 => WE X i r1 G1 fun y r2 G2 => ∃ kvs key v, VwR r2 G2 x (eD k f kvs) ∧ vw r2 y = some (kD (k key)) ∧ dget kvs key = some v ∧ Q (.sh (f v)) r2 G2) : WE X (.Subscript o i pos) r G Q := fun F0 T F H σ lk S =>
  Run.of (pe_dget (by omega) peR peR hs) (by
    refine (h F0 T F H σ lk S).mono fun va H1 ⟨x, r1, G1, F1, e1, S1, k1, h1⟩ => ?_
    obtain ⟨F1', e1', S1', hv⟩ := hold S1 k1
    refine (h1 F0 T F1' H1 σ lk S1').mono fun vb H2 ⟨y, r2, G2, F2, e2, S2, k2, kvs, key, v, q1, q2, q3, q4⟩ => ?_
    obtain ⟨p, us, hp, z1, z2⟩ := (hv F2 G2 H2 r2 _ e2 S2 q1).dics S2.bas.fh
    subst hp
    rw [zip_eDl] at z2
    have hvb : vb = kV (k key) := vw_kD (S2.view k2 q2)
    subst hvb
    rcases valD_rep (k := k key) z2 with ⟨m1, m2⟩ | ⟨d, w, m1, m2, m3⟩
    · rw [valD_eDl hk, q3] at m1; cases m1
    · rw [valD_eDl hk, q3] at m1
      cases m1
      exact ⟨p, w, rfl, .inl ⟨us, k key, z1, rfl, m2.symm⟩, .sh (f v), r2, G2, F2, (e1.trans e1').trans e2, S2, m3, q4⟩)
/-- d.get(k, x) -/
theorem we_dget2 {κ ν : Type} [DecidableEq κ] {k : κ → Key} {f : ν → D} (hk : KInj k) (hu : X.A.units + 64 < cLine) {Q : Res → Env2 → GD → Prop}
    (h : WE X o r G fun x r1 G1 => ∃ kvs, VwR r1 G1 x (eD k f kvs) ∧ WE X a r1 G1 fun y r2 G2 => ∃ key, y = .sh (kD (k key)) ∧ WE X b r2 G2 fun z r3 G3 => ∃ d r4 kvs, fz r3 z = some (d, r4) ∧ VwR r4 G3 x (eD k f kvs) ∧ Q (.sh (match dget kvs key with | some v => f v | none => d)) r4 G3)
    (base : attributeBase o "get" X.env (eval o X.env) = eval o X.env := by rfl)
    (few : ((backTo cpos (starEach [a, b] X.env)).all (fun x => !x.1) && (backToKw cpos (keywordEach [] X.env)).all (fun x => x.1.isSome) && decide (([a, b] : List Expr).length + ([] : List Keyword).length + (if ([] : List Keyword).isEmpty then 0 else 1) < 30)) = true := by rfl)
    (line : (apos.endLine == cpos.line) = true := by rfl) (trees : backTo cpos (starEach [a, b] X.env) = [(false, eval a X.env), (false, eval b X.env)] := by rfl) : WE X (.Call (.Attribute o "get" apos) [a, b] [] cpos) r G Q := fun F0 T F H σ lk S =>
  Run.of (pe_dget2 (by omega) peR peR peR ⟨base, few, line, trees⟩) (by
    refine (h F0 T F H σ lk S).mono fun va H1 ⟨x, r1, G1, F1, e1, S1, k1, kvs0, v0, h1⟩ => ?_
    obtain ⟨F1', e1', S1', hv⟩ := hold S1 k1
    obtain ⟨p, us0, hp, z1, _⟩ := (hv F1' G1 H1 r1 _ (Ex.refl _) S1' v0).dics S1'.bas.fh
    subst hp
    refine ⟨p, rfl, .inl ⟨us0, z1⟩, (h1 F0 T F1' H1 σ lk S1').mono fun vb H2 ⟨y, r2, G2, F2, e2, S2, k2, key, hy, h2⟩ => ?_⟩
    subst hy
    have hvb : vb = kV (k key) := rep_kD k2
    subst hvb
    refine (h2 F0 T F2 H2 σ lk S2).mono fun vz H3 ⟨z, r3, G3, F3, e3, S3, k3, d, r4, kvs, q1, q2, q3⟩ => ?_
    obtain ⟨F4, e4, S4, rp⟩ := S3.fz k3 q1
    obtain ⟨p', us, hp', y1, y2⟩ := (hv F4 G3 H3 r4 _ ((e2.trans e3).trans e4) S4 q2).dics S4.bas.fh
    cases hp'
    rw [zip_eDl] at y2
    rcases valD_rep (k := k key) y2 with ⟨m1, m2⟩ | ⟨d', w, m1, m2, m3⟩
    · rw [valD_eDl hk] at m1
      have hn : dget kvs key = none := by
        cases hg : dget kvs key with
        | none => rfl
        | some v => rw [hg] at m1; cases m1
      rw [hn] at q3
      exact ⟨none, .inl ⟨us, k key, y1, rfl, m2.symm⟩, .sh d, r4, G3, F4, (((e1.trans e1').trans e2).trans e3).trans e4, S4, rp, q3⟩
    · rw [valD_eDl hk] at m1
      cases hg : dget kvs key with
      | none => rw [hg] at m1; cases m1
      | some v =>
        rw [hg] at m1 q3
        cases m1
        exact ⟨some w, .inl ⟨us, k key, y1, rfl, m2.symm⟩, .sh (f v), r4, G3, F4, (((e1.trans e1').trans e2).trans e3).trans e4, S4, m3, q3⟩)
/-- {} -/
theorem we_dnew {Q : Res → Env2 → GD → Prop} (q : Q (.fr (.dic [] [])) r G) : WE X (.Dict [] [] pos) r G Q := fun F0 T F H σ lk S =>
  Run.of pe_dnewK fun p hp => by
    obtain ⟨f1, f2, f3⟩ := S.bas.freshF hp
    exact ⟨.fr (.dic [] []), r, G, F, Ex.refl _, S.newH hp, ⟨p, rfl, ⟨[], upd_same, rfl, rfl⟩, f1, f2, f3, S.freshR hp⟩, q⟩
/-- d[k] = v, d an own slot -/
theorem ws_dput {κ ν : Type} [DecidableEq κ] {k : κ → Key} {f : ν → D} (hk : KInj k) (hu : X.A.units + 64 < cLine)
    (h : WE X e r G fun z r1 G1 => ∃ v r2, fz r1 z = some (f v, r2) ∧ WE X o r2 G1 fun x r3 G3 => ∃ j, x = .pk j ∧ WE X i r3 G3 fun y r4 G4 => ∃ kvs key, y = .sh (kD (k key)) ∧ r4[j]? = some (.own (eD k f kvs)) ∧ kvs.length < LIM ∧ D0.nx (r4.set j (.own (eD k f (dput kvs key v)))) G4)
    (hs : swapsWith e (some (.Subscript o i tpos)) pos.line X.env = pure false := by rfl) : WS X (.Assign [.Subscript o i tpos] e pos) r G D0 := fun F0 T F H σ lk S =>
  RunS.of (ps_dput (by omega) peR peR peR hs) ((h F0 T F H σ lk S).mono fun v0 H1 ⟨z, r1, G1, F1, e1, S1, k1, v, r2, q1, h1⟩ => by
    obtain ⟨F1', e1', S1', rp⟩ := S1.fz k1 q1
    refine (h1 F0 T F1' H1 σ lk S1').mono fun vo H2 ⟨x, r3, G3, F2, e2, S2, k2, j, hx, h2⟩ => ?_
    subst hx
    obtain ⟨k2a, _⟩ := k2
    refine (h2 F0 T F2 H2 σ lk S2).mono fun vi H3 ⟨y, r4, G4, F3, e3, S3, k3, kvs, key, hy, hj, hl, q⟩ => ?_
    subst hy
    have hvi : vi = kV (k key) := rep_kD k3
    subst hvi
    obtain ⟨p, m1, ⟨vs, m2, m3, m4⟩, m5, m6⟩ := S3.mut hj
    rw [k2a] at m1; cases m1
    have dr := DRep.of m3 m4
    rw [zip_eDl] at dr
    have dr2 := dr.put (k := k key) (Rep.mono (e2.trans e3) _ _ rp)
    rw [putD_eDl hk] at dr2
    have ow := own_dicD (H := upd H3 p (.dK (putK ((kvs.map fun p => k p.1).zip vs) (k key) v0))) dr2 upd_same
    rw [eD_dicD] at ow
    refine ⟨p, _, rfl, DPut.k m2 (by rw [dr.length]; unfold eDl; rw [List.length_map]; exact lim_lt hl), _, G4, F3, m6 _ _ ow, q⟩)
/-! ### comprehensions -/
abbrev Blk (X : Cy) (scope : Scope) (P : Cy → Prop) : Prop := ∀ Y, BlkX X scope Y → P Y
/-- an item that is made: the state as it was -/
def Made (R : Env2) (G : GD) (is : List Nat) (d : D) : Res → Env2 → GD → Prop := fun z r2 G2 => ∃ r3, fz r2 z = some (d, r3) ∧ Wk (wipeD r3 is) R ∧ G2 = G
theorem comp_len {f : α → Out (Option β)} : ∀ {xs : List α} {ys : List β}, Out.comp f xs = .ok ys → ys.length ≤ xs.length
  | [], ys, h => by unfold Out.comp at h; cases h; exact Nat.le_refl _
  | x :: xs, ys, h => by
    unfold Out.comp at h
    cases hf : f x with
    | ok o =>
      rw [hf] at h
      cases hc : Out.comp f xs with
      | ok r =>
        rw [hc] at h
        have := comp_len hc
        cases o with
        | some y => cases h; simp; exact this
        | none => cases h; simp; omega
      | ex x => rw [hc] at h; cases h
      | no => rw [hc] at h; cases h
    | ex x => rw [hf] at h; cases h
    | no => rw [hf] at h; cases h
theorem WG.mono {d : D} {is : List Nat} {Q Q' : Env2 → GD → Prop} (h : WG X tg d r G is Q) (k : ∀ r G, Q r G → Q' r G) : WG X tg d r G is Q' := fun F0 T F H σ v lk S rp pins s u I rv =>
  wpAny_mono (h F0 T F H σ v lk S rp pins s u I rv) (fun _ _ ⟨σ', H', I', hw, r', G', F', e', S', q'⟩ => ⟨σ', H', I', hw, r', G', F', e', S', k _ _ q'⟩) fun _ _ x => x
/-- what is known of slots is forgotten behind an expression -/
theorem WE.wkp {Q : Res → Env2 → GD → Prop} (h : WE X e r G fun x r1 G1 => ∃ R, Wk r1 R ∧ (∀ i, x ≠ .pk i) ∧ Q x R G1) : WE X e r G Q := fun F0 T F H σ lk S =>
  (h F0 T F H σ lk S).mono fun v H1 ⟨x, r1, G1, F1, e1, S1, k1, R, w, hx, q⟩ => by
    refine ⟨x, R, G1, F1, e1, S1.weak w, ?_, q⟩
    cases x with
    | sh d => exact k1
    | pk i => exact absurd rfl (hx i)
    | fr d =>
      obtain ⟨p, z1, z2, z3, z4, z5, z6⟩ := k1
      refine ⟨p, z1, z2, z3, z4, z5, fun i e he => ?_⟩
      rcases w.get i _ he with z | z
      · cases z
      · exact z6 i e z
/-- what a comprehension asks of its turns -/
def LcPre (X : Cy) (scope : Scope) (tg e elt : Expr) (ifs : List Expr) (is : List Nat) (r : Env2) (G : GD) (Q : Res → Env2 → GD → Prop) : Prop :=
  WI X tg e r G fun ds r2 G1 => ∃ I : Nat → List D → Env2 → GD → Prop, I 0 [] (wipeD r2 is) G1 ∧ (∀ (k : Nat) (d : D) (acc : List D) (r3 : Env2) (G3 : GD), ds[k]? = some d → I k acc r3 G3 → LcTurn X scope tg elt ifs is d acc r3 G3 (I (k + 1))) ∧
      ∀ acc r3 G3, I ds.length acc r3 G3 → Q (.fr (.lst acc)) r3 G3
/-- .. its result known at R -/
def atR (Q : Res → Env2 → GD → Prop) : Res → Env2 → GD → Prop := fun x r1 G1 => ∃ R, Wk r1 R ∧ (∀ i, x ≠ .pk i) ∧ Q x R G1
theorem Wk.set {a b : Env2} (w : Wk a b) (s : Sl) : ∀ i, Wk (a.set i s) (b.set i s) := by
  induction w with
  | nil => intro i; exact .nil
  | no h ih => intro i; cases i with
    | zero => exact .eq h
    | succ i => exact .no (ih i)
  | eq h ih => intro i; cases i with
    | zero => exact .eq h
    | succ i => exact .eq (ih i)
theorem we_lcQ {scope : Scope} (own : List (Str × Nat)) {Q : Res → Env2 → GD → Prop} (hc : X.calm = true) (hN : X.N.Nodup) (ok : BlkOk X.N X.env.scope scope own) (h : LcPre X scope tg e elt ifs (own.map (·.2)) r G (atR Q)) (hs : ∀ x, foldedSetIterable e X.env x = pure x := by intro _; rfl) :
    WE X (.ListComp elt [⟨tg, e, ifs, 0⟩] scope pos) r G Q := WE.wkp (we_lc own hc hN ok h hs)
/-- y = [..] -/
theorem wb_setLcQ {scope : Scope} (own : List (Str × Nat)) (i : Nat) {y : Str} {py spos : Pos} (hc : X.calm = true) (hN : X.N.Nodup) (hy : X.N[i]? = some y) (hyl : X.env.scope.names.lookup y = some .local)
    (hsw : swapsWith (.ListComp elt [⟨tg, e, ifs, 0⟩] scope pos) (some (.Name y py)) spos.line X.env = pure true) (ok : BlkOk X.N X.env.scope scope own)
    (h : LcPre X scope tg e elt ifs (own.map (·.2)) r G (atR fun x R G1 => i < R.length ∧ ∃ R', putS R i x = some R' ∧ WB X rest R' G1 D0)) (hs : ∀ x, foldedSetIterable e X.env x = pure x := by intro _; rfl) :
    WB X (.Assign [.Name y py] (.ListComp elt [⟨tg, e, ifs, 0⟩] scope pos) spos :: rest) r G D0 :=
  wb_cons (ws_setLc own i hc hN hy hyl hsw ok (WI.mono h fun ds r2 G1 ⟨I, i0, it, ie⟩ => ⟨I, i0, it, fun acc r3 G3 q => by
    obtain ⟨R, w, _, hi, R', hR, k⟩ := ie acc r3 G3 q
    cases hR
    exact ⟨by rw [← w.len]; exact hi, _, rfl, k.weak (w.set _ i)⟩⟩) hs)
/-- [elt for tg in e], nothing that may fail -/
theorem lc0_pre {scope : Scope} (own : List (Str × Nat)) (R : Env2) {en : α → D} (ey : β → D) (g : α → β) {Q : Res → Env2 → GD → Prop}
    (h : WI X tg e r G fun ds r2 G1 => ∃ xs : List α, ds = xs.map en ∧ xs.length ≤ LIM ∧ Wk (wipeD r2 (own.map (·.2))) R ∧
      (∀ x, Blk X scope fun Y => WG Y tg (en x) R G1 (own.map (·.2)) fun r3 G3 => Blk X scope fun Y => WE Y elt r3 G3 (Made R G1 (own.map (·.2)) (ey (g x)))) ∧ Q (.fr (.lst ((xs.map g).map ey))) R G1) : LcPre X scope tg e elt [] (own.map (·.2)) r G (atR Q) :=
  h.mono fun ds r2 G1 ⟨xs, hd, hl, w, hb, q⟩ => by
    subst hd
    refine ⟨fun k acc r3 G3 => Wk r3 R ∧ G3 = G1 ∧ acc = ((xs.take k).map g).map ey, ⟨w, rfl, rfl⟩, fun k d acc r3 G3 hd ⟨w3, hG, ha⟩ => ?_, fun acc r3 G3 ⟨w3, hG, ha⟩ => ?_⟩
    · subst hG ha
      obtain ⟨x, hx, rfl⟩ := map_at hd
      have hlt : k < xs.length := (List.getElem?_eq_some_iff.mp hx).1
      intro Y hY
      refine WG.mono (WG.weak w3 (hb x Y hY)) fun r4 G4 q' Y hY => (q' Y hY).mono fun zz r5 G5 ⟨r6, m1, m2, m3⟩ => ⟨ey (g x), r6, m1, ?_, m2, m3, ?_⟩
      · rw [List.length_map, List.length_map, List.length_take]; omega
      · rw [List.take_add_one, hx, List.map_append, List.map_append]; rfl
    · subst hG ha
      rw [List.length_map, List.take_length]
      exact ⟨R, w3, (fun i z => by cases z), q⟩

/-- [elt for tg in e if c] -/
theorem filter_at {p : α → Bool} {xs : List α} {k : Nat} {x : α} (hx : xs[k]? = some x) : (xs.take (k + 1)).filter p = (xs.take k).filter p ++ (if p x = true then [x] else []) := by
  rw [List.take_add_one, hx, List.filter_append]
  congr 1
  show List.filter p [x] = _
  by_cases h : p x = true <;> simp [h]
theorem lc1_pre {scope : Scope} (own : List (Str × Nat)) (R : Env2) {en : α → D} (ey : β → D) (p : α → Bool) (g : α → β) {Q : Res → Env2 → GD → Prop}
    (h : WI X tg e r G fun ds r2 G1 => ∃ xs : List α, ds = xs.map en ∧ xs.length ≤ LIM ∧ Wk (wipeD r2 (own.map (·.2))) R ∧
      (∀ x, Blk X scope fun Y => WG Y tg (en x) R G1 (own.map (·.2)) fun r3 G3 => Blk X scope fun Y => WT Y c r3 G3 fun b r4 G4 => b = p x ∧
        (p x = true → Blk X scope fun Y => WE Y elt r4 G4 (Made R G1 (own.map (·.2)) (ey (g x)))) ∧ (p x = false → Wk (wipeD r4 (own.map (·.2))) R ∧ G4 = G1)) ∧ Q (.fr (.lst (((xs.filter p).map g).map ey))) R G1) : LcPre X scope tg e elt [c] (own.map (·.2)) r G (atR Q) :=
  h.mono fun ds r2 G1 ⟨xs, hd, hl, w, hb, q⟩ => by
    subst hd
    refine ⟨fun k acc r3 G3 => Wk r3 R ∧ G3 = G1 ∧ acc = (((xs.take k).filter p).map g).map ey, ⟨w, rfl, rfl⟩, fun k d acc r3 G3 hd ⟨w3, hG, ha⟩ => ?_, fun acc r3 G3 ⟨w3, hG, ha⟩ => ?_⟩
    · subst hG ha
      obtain ⟨x, hx, rfl⟩ := map_at hd
      have hlt : k < xs.length := (List.getElem?_eq_some_iff.mp hx).1
      intro Y hY
      refine WG.mono (WG.weak w3 (hb x Y hY)) fun r4 G4 q' Y hY => (q' Y hY).mono fun b r5 G5 ⟨hbp, q1, q2⟩ => ⟨fun hb1 Y hY => ?_, fun hb0 => ?_⟩
      · have hp : p x = true := hbp ▸ hb1
        refine (q1 hp Y hY).mono fun zz r6 G6 ⟨r7, m1, m2, m3⟩ => ⟨ey (g x), r7, m1, ?_, m2, m3, ?_⟩
        · rw [List.length_map, List.length_map]
          have h1 := List.length_filter_le p (xs.take k)
          rw [List.length_take] at h1
          omega
        · rw [filter_at hx, if_pos hp, List.map_append, List.map_append]; rfl
      · have hp : p x = false := hbp ▸ hb0
        obtain ⟨w5, hG5⟩ := q2 hp
        refine ⟨w5, hG5, ?_⟩
        rw [filter_at hx, if_neg (by rw [hp]; exact Bool.false_ne_true), List.append_nil]
    · subst hG ha
      rw [List.length_map, List.take_length]
      exact ⟨R, w3, (fun i z => by cases z), q⟩

/-- an item that is made by a mirror -/
def MadeM (R : Env2) (gg : GD → Prop) (is : List Nat) (ey : β → D) (Q' : β → GD → Prop) : Res → Env2 → GD → Prop := fun z r2 G2 => ∃ y r3, fz r2 z = some (ey y, r3) ∧ Wk (wipeD r3 is) R ∧ Q' y G2
/-- [elt for tg in e if ..], by a mirror with a state -/
theorem compS_step {f : σT → α → Out (Option β × σT)} {xs : List α} {acc : List β} {s : σT} {x : α} {kk : List β × σT → Out γ} {Q : γ → Prop} {E : Xm → Prop} (h : ((Out.compS f (x :: xs) acc s).bind kk).sat Q E) :
    (f s x).sat (fun t => ((Out.compS f xs (match t.1 with | some y => acc ++ [y] | none => acc) t.2).bind kk).sat Q E) E := by
  have z : (((f s x).bind fun t => Out.compS f xs (match t.1 with | some y => acc ++ [y] | none => acc) t.2).bind kk).sat Q E := h
  cases hf : f s x with
  | ok t => rw [hf] at z; exact z
  | ex x' => rw [hf] at z; exact z
  | no => rw [hf] at z; exact z
theorem lcS_pre {scope : Scope} (own : List (Str × Nat)) (R : Env2) (gg : σT → GD) {en : α → D} (ey : β → D) {Q : Res → Env2 → GD → Prop}
    (h : WI X tg e r G fun ds r2 G1 => ∃ (xs : List α) (s0 : σT) (f : σT → α → Out (Option β × σT)) (kk : List β × σT → Out γ) (Q0 : γ → Prop) (E : Xm → Prop), ds = xs.map en ∧ xs.length ≤ LIM ∧ Wk (wipeD r2 (own.map (·.2))) R ∧ G1 = gg s0 ∧ ((Out.compS f xs [] s0).bind kk).sat Q0 E ∧
      (∀ s x (Q' : Option β × σT → Prop), (f s x).sat Q' E → Blk X scope fun Y => WG Y tg (en x) R (gg s) (own.map (·.2)) fun r3 G3 => match ifs with
        | [] => Blk X scope fun Y => WE Y elt r3 G3 fun z r4 G4 => ∃ y s' r5, fz r4 z = some (ey y, r5) ∧ Wk (wipeD r5 (own.map (·.2))) R ∧ G4 = gg s' ∧ Q' (some y, s')
        | [c] => Blk X scope fun Y => WT Y c r3 G3 fun b r4 G4 => (b = true → Blk X scope fun Y => WE Y elt r4 G4 fun z r5 G5 => ∃ y s' r6, fz r5 z = some (ey y, r6) ∧ Wk (wipeD r6 (own.map (·.2))) R ∧ G5 = gg s' ∧ Q' (some y, s')) ∧ (b = false → ∃ s', Wk (wipeD r4 (own.map (·.2))) R ∧ G4 = gg s' ∧ Q' (none, s'))
        | _ => False) ∧ ∀ ys s', (kk (ys, s')).sat Q0 E → Q (.fr (.lst (ys.map ey))) R (gg s')) : LcPre X scope tg e elt ifs (own.map (·.2)) r G (atR Q) :=
  h.mono fun ds r2 G1 ⟨xs, s0, f, kk, Q0, E, hd, hl, w, hg, h0, hb, hq⟩ => by
    subst hd hg
    refine ⟨fun k acc r3 G3 => ∃ ys s, Wk r3 R ∧ G3 = gg s ∧ acc = ys.map ey ∧ ys.length ≤ k ∧ ((Out.compS f (xs.drop k) ys s).bind kk).sat Q0 E, ⟨[], s0, w, rfl, rfl, Nat.le_refl _, h0⟩, fun k d acc r3 G3 hd ⟨ys, s, w3, hG, ha, hly, hq3⟩ => ?_, fun acc r3 G3 ⟨ys, s, w3, hG, ha, hly, hq3⟩ => ?_⟩
    · subst hG ha
      obtain ⟨x, hx, rfl⟩ := map_at hd
      have hlt : k < xs.length := (List.getElem?_eq_some_iff.mp hx).1
      rw [drop_at hx] at hq3
      have st := hb s x _ (compS_step hq3)
      have lim : (ys.map ey).length < LIM := by rw [List.length_map]; omega
      intro Y hY
      refine WG.mono (WG.weak w3 (st Y hY)) fun r4 G4 q' => ?_
      match ifs, q' with
      | [], q' =>
        refine fun Y hY => (q' Y hY).mono fun zz r5 G5 ⟨y, s', r6, m1, m2, m3, m4⟩ => ⟨ey y, r6, m1, lim, ys ++ [y], s', m2, m3, by rw [List.map_append]; rfl, by rw [List.length_append]; exact Nat.succ_le_succ hly, m4⟩
      | [c], q' =>
        refine fun Y hY => (q' Y hY).mono fun b r5 G5 ⟨q1, q2⟩ => ⟨fun hb1 Y hY => ?_, fun hb0 => ?_⟩
        · exact (q1 hb1 Y hY).mono fun zz r6 G6 ⟨y, s', r7, m1, m2, m3, m4⟩ => ⟨ey y, r7, m1, lim, ys ++ [y], s', m2, m3, by rw [List.map_append]; rfl, by rw [List.length_append]; exact Nat.succ_le_succ hly, m4⟩
        · obtain ⟨s', m2, m3, m4⟩ := q2 hb0
          exact ⟨ys, s', m2, m3, rfl, Nat.le_succ_of_le hly, m4⟩
      | _ :: _ :: _, q' => exact q'.elim
    · subst hG ha
      rw [List.length_map, List.drop_length] at hq3
      exact ⟨R, w3, (fun i z => by cases z), hq ys s hq3⟩

end

open Out (Rt)
section
variable {κ ν : Type} [DecidableEq κ]
theorem dmk_snoc (kvs : List (κ × ν)) (p : κ × ν) : dmk (kvs ++ [p]) = dput (dmk kvs) p.1 p.2 := by unfold dmk; rw [List.foldl_append]; rfl
theorem dmk_len : ∀ (kvs : List (κ × ν)), (dmk kvs).length ≤ kvs.length := by
  have key : ∀ (kvs acc : List (κ × ν)), (kvs.foldl (fun acc p => dput acc p.1 p.2) acc).length ≤ acc.length + kvs.length := by
    intro kvs
    induction kvs with
    | nil => intro acc; exact Nat.le_refl _
    | cons p kvs ih =>
      intro acc
      rw [List.foldl_cons, List.length_cons]
      have h1 := ih (dput acc p.1 p.2)
      have h2 := dput_len acc p.1 p.2
      omega
  intro kvs
  have := key kvs []
  rw [List.length_nil, Nat.zero_add] at this
  exact this
end
section
variable {X : Cy} {e a b c o tg kx vx elt i : Expr} {es ifs : List Expr} {st : Stmt} {sts rest body orelse : List Stmt} {r : Env2} {G : GD} {pos tpos apos cpos p0 : Pos} {D0 : EndsD} {α β γ σT ρ : Type}
/-- {k: v for tg in e}, nothing that may fail -/
theorem we_dc0 {κ ν : Type} [DecidableEq κ] {scope : Scope} (own : List (Str × Nat)) (R : Env2) {en : α → D} (ek : κ → Key) (ev : ν → D) (hk : KInj ek) (g : α → κ × ν) {Q : Res → Env2 → GD → Prop} (hc : X.calm = true) (hN : X.N.Nodup) (ok : BlkOk X.N X.env.scope scope own)
    (h : WI X tg e r G fun ds r2 G1 => ∃ xs : List α, ds = xs.map en ∧ xs.length ≤ LIM ∧ Wk (wipeD r2 (own.map (·.2))) R ∧
      (∀ x, Blk X scope fun Y => WG Y tg (en x) R G1 (own.map (·.2)) fun r3 G3 => Blk X scope fun Y => WE Y kx r3 G3 fun z r4 G4 => z = .sh (kD (ek (g x).1)) ∧ Blk X scope fun Y => WE Y vx r4 G4 (Made R G1 (own.map (·.2)) (ev (g x).2))) ∧ Q (.fr (eD ek ev (dmk (xs.map g)))) R G1)
    (hs : ∀ x, foldedSetIterable e X.env x = pure x := by intro _; rfl) : WE X (.DictComp kx vx [⟨tg, e, [], 0⟩] scope pos) r G Q :=
  WE.wkp (we_dc own hc hN ok (h.mono fun ds r2 G1 ⟨xs, hd, hl, w, hb, q⟩ => by
    subst hd
    refine ⟨fun k acc r3 G3 => Wk r3 R ∧ G3 = G1 ∧ acc = eDl ek ev (dmk ((xs.take k).map g)), ⟨w, rfl, rfl⟩, fun k d acc r3 G3 hd ⟨w3, hG, ha⟩ => ?_, fun acc r3 G3 ⟨w3, hG, ha⟩ => ?_⟩
    · subst hG ha
      obtain ⟨x, hx, rfl⟩ := map_at hd
      have hlt : k < xs.length := (List.getElem?_eq_some_iff.mp hx).1
      intro Y hY
      refine WG.mono (WG.weak w3 (hb x Y hY)) fun r4 G4 q' Y hY => (q' Y hY).mono fun z r5 G5 ⟨hz, q2⟩ => ⟨ek (g x).1, hz, fun Y hY => (q2 Y hY).mono fun zz r6 G6 ⟨r7, m1, m2, m3⟩ => ⟨ev (g x).2, r7, m1, ?_, m2, m3, ?_⟩⟩
      · unfold eDl
        rw [List.length_map]
        have h1 := dmk_len ((xs.take k).map g)
        rw [List.length_map, List.length_take] at h1
        omega
      · rw [putD_eDl hk, List.take_add_one, hx, List.map_append]
        show _ = eDl ek ev (dmk (List.map g (List.take k xs) ++ [g x]))
        rw [dmk_snoc]
    · subst hG ha
      rw [List.length_map, List.take_length, eD_dicD]
      exact ⟨R, w3, (fun i z => by cases z), q⟩) hs)
/-! ### parts of expressions by mirrors -/
theorem we_ifP {en : α → D} {va vb : α} {Q : Res → Env2 → GD → Prop} (h : WT X c r G fun d r1 G1 => (d = true → WE X a r1 G1 fun x r2 G2 => x = .sh (en va) ∧ r2 = r1 ∧ G2 = G1) ∧ (d = false → WE X b r1 G1 fun x r2 G2 => x = .sh (en vb) ∧ r2 = r1 ∧ G2 = G1) ∧ Q (.sh (en (if d = true then va else vb))) r1 G1) : WE X (.IfExp c a b pos) r G Q :=
  we_ifExp (h.mono fun d r1 G1 ⟨h1, h2, q⟩ => ⟨fun hd => (h1 hd).mono fun x r2 G2 ⟨m1, m2, m3⟩ => by subst m1 m2 m3; rw [if_pos hd] at q; exact q, fun hd => (h2 hd).mono fun x r2 G2 ⟨m1, m2, m3⟩ => by subst m1 m2 m3; rw [if_neg (by rw [hd]; exact Bool.false_ne_true)] at q; exact q⟩)
/-- .. by a mirror -/
theorem we_ifM (en : α → D) {ma mb : Bool → Out α} {f : α → Out β} {Q0 : β → Prop} {E : Xm → Prop} {Q : Res → Env2 → GD → Prop}
    (h : WT X c r G fun d r1 G1 => ((if d = true then ma d else mb d).bind f).sat Q0 E ∧ (d = true → ∀ Q' : α → Prop, (ma d).sat Q' E → WE X a r1 G1 fun x r2 G2 => ∃ v, x = .sh (en v) ∧ r2 = r1 ∧ G2 = G1 ∧ Q' v) ∧
      (d = false → ∀ Q' : α → Prop, (mb d).sat Q' E → WE X b r1 G1 fun x r2 G2 => ∃ v, x = .sh (en v) ∧ r2 = r1 ∧ G2 = G1 ∧ Q' v) ∧ ∀ v, (f v).sat Q0 E → Q (.sh (en v)) r1 G1) : WE X (.IfExp c a b pos) r G Q :=
  we_ifExp (h.mono fun d r1 G1 ⟨h0, h1, h2, q⟩ => ⟨fun hd => by
    rw [if_pos hd] at h0
    exact (h1 hd _ (Out.sb h0)).mono fun x r2 G2 ⟨v, m1, m2, m3, m4⟩ => by subst m1 m2 m3; exact q v m4, fun hd => by
    rw [if_neg (by rw [hd]; exact Bool.false_ne_true)] at h0
    exact (h2 hd _ (Out.sb h0)).mono fun x r2 G2 ⟨v, m1, m2, m3, m4⟩ => by subst m1 m2 m3; exact q v m4⟩)
/-- a test as a value, joined -/
theorem we_andP {c2 : Bool} {Q : Res → Env2 → GD → Prop} (h : WE X a r G fun x r1 G1 => ∃ c1, x = .sh (.bl c1) ∧ (c1 = true → WE X (.BoolOp .And (b :: es) pos) r1 G1 fun y r2 G2 => y = .sh (.bl c2) ∧ r2 = r1 ∧ G2 = G1) ∧ Q (.sh (.bl (c1 && c2))) r1 G1) : WE X (.BoolOp .And (a :: b :: es) pos) r G Q :=
  we_and (h.mono fun x r1 G1 ⟨c1, hx, h1, q⟩ => ⟨c1, hx, fun hc => (h1 hc).mono fun y r2 G2 ⟨m1, m2, m3⟩ => by subst m1 m2 m3; rw [hc, Bool.true_and] at q; exact q, fun hc => by rw [hc, Bool.false_and] at q; exact q⟩)
theorem we_orP {c2 : Bool} {Q : Res → Env2 → GD → Prop} (h : WE X a r G fun x r1 G1 => ∃ c1, x = .sh (.bl c1) ∧ (c1 = false → WE X (.BoolOp .Or (b :: es) pos) r1 G1 fun y r2 G2 => y = .sh (.bl c2) ∧ r2 = r1 ∧ G2 = G1) ∧ Q (.sh (.bl (c1 || c2))) r1 G1) : WE X (.BoolOp .Or (a :: b :: es) pos) r G Q :=
  we_or (h.mono fun x r1 G1 ⟨c1, hx, h1, q⟩ => ⟨c1, hx, fun hc => (h1 hc).mono fun y r2 G2 ⟨m1, m2, m3⟩ => by subst m1 m2 m3; rw [hc, Bool.false_or] at q; exact q, fun hc => by rw [hc, Bool.true_or] at q; exact q⟩)
/-- joined by a mirror: the second part may fail -/
theorem we_andM {m : Out Bool} {f : Bool → Out β} {Q0 : β → Prop} {E : Xm → Prop} {Q : Res → Env2 → GD → Prop} (h : WE X a r G fun x r1 G1 => ∃ c1, x = .sh (.bl c1) ∧ ((if c1 = true then m else .ok false).bind f).sat Q0 E ∧ (c1 = true → ∀ Q' : Bool → Prop, m.sat Q' E → WE X (.BoolOp .And (b :: es) pos) r1 G1 fun y r2 G2 => ∃ c2, y = .sh (.bl c2) ∧ r2 = r1 ∧ G2 = G1 ∧ Q' c2) ∧ ∀ v, (f v).sat Q0 E → Q (.sh (.bl v)) r1 G1) : WE X (.BoolOp .And (a :: b :: es) pos) r G Q :=
  we_and (h.mono fun x r1 G1 ⟨c1, hx, h0, h1, q⟩ => ⟨c1, hx, fun hc => by
    rw [if_pos hc] at h0
    exact (h1 hc _ (Out.sb h0)).mono fun y r2 G2 ⟨c2, m1, m2, m3, m4⟩ => by subst m1 m2 m3; exact q c2 m4, fun hc => by
    rw [if_neg (by rw [hc]; exact Bool.false_ne_true)] at h0
    exact q false h0⟩)
theorem we_orM {m : Out Bool} {f : Bool → Out β} {Q0 : β → Prop} {E : Xm → Prop} {Q : Res → Env2 → GD → Prop} (h : WE X a r G fun x r1 G1 => ∃ c1, x = .sh (.bl c1) ∧ ((if c1 = true then .ok true else m).bind f).sat Q0 E ∧ (c1 = false → ∀ Q' : Bool → Prop, m.sat Q' E → WE X (.BoolOp .Or (b :: es) pos) r1 G1 fun y r2 G2 => ∃ c2, y = .sh (.bl c2) ∧ r2 = r1 ∧ G2 = G1 ∧ Q' c2) ∧ ∀ v, (f v).sat Q0 E → Q (.sh (.bl v)) r1 G1) : WE X (.BoolOp .Or (a :: b :: es) pos) r G Q :=
  we_or (h.mono fun x r1 G1 ⟨c1, hx, h0, h1, q⟩ => ⟨c1, hx, fun hc => by
    rw [if_neg (by rw [hc]; exact Bool.false_ne_true)] at h0
    exact (h1 hc _ (Out.sb h0)).mono fun y r2 G2 ⟨c2, m1, m2, m3, m4⟩ => by subst m1 m2 m3; exact q c2 m4, fun hc => by
    rw [if_pos hc] at h0
    exact q true h0⟩)
/-- the same of tests -/
theorem WW.monoT {Q Q' : Bool → Env2 → GD → Prop} (h : WW X e r G Q) (k : ∀ x r' G', Q x r' G' → Q' x r' G') : WW X e r G Q' := fun F0 T F H σ lk S w pins s I =>
  wpAny_mono (h F0 T F H σ lk S w pins s I) (fun _ _ ⟨H', I', r', G', F', a, b, q⟩ => ⟨H', I', r', G', F', a, b, k _ _ _ q⟩) fun _ _ x => x
theorem ww_andM {m : Out Bool} {f : Bool → Out β} {Q0 : β → Prop} {E : Xm → Prop} {Q : Bool → Env2 → GD → Prop} (h : WT X a r G fun c1 r1 G1 => ((if c1 = true then m else .ok false).bind f).sat Q0 E ∧ (c1 = true → ∀ Q' : Bool → Prop, m.sat Q' E → WW X (.BoolOp .And (b :: es) pos) r1 G1 fun d r2 G2 => r2 = r1 ∧ G2 = G1 ∧ Q' d) ∧ ∀ v, (f v).sat Q0 E → Q v r1 G1) : WW X (.BoolOp .And (a :: b :: es) pos) r G Q :=
  ww_and (h.mono fun c1 r1 G1 ⟨h0, h1, q⟩ => ⟨fun hc => by
    rw [if_pos hc] at h0
    exact (h1 hc _ (Out.sb h0)).monoT fun d r2 G2 ⟨m2, m3, m4⟩ => by subst m2 m3; exact q d m4, fun hc => by
    rw [if_neg (by rw [hc]; exact Bool.false_ne_true)] at h0
    exact q false h0⟩)
theorem ww_orM {m : Out Bool} {f : Bool → Out β} {Q0 : β → Prop} {E : Xm → Prop} {Q : Bool → Env2 → GD → Prop} (h : WT X a r G fun c1 r1 G1 => ((if c1 = true then .ok true else m).bind f).sat Q0 E ∧ (c1 = false → ∀ Q' : Bool → Prop, m.sat Q' E → WW X (.BoolOp .Or (b :: es) pos) r1 G1 fun d r2 G2 => r2 = r1 ∧ G2 = G1 ∧ Q' d) ∧ ∀ v, (f v).sat Q0 E → Q v r1 G1) : WW X (.BoolOp .Or (a :: b :: es) pos) r G Q :=
  ww_or (h.mono fun c1 r1 G1 ⟨h0, h1, q⟩ => ⟨fun hc => by
    rw [if_neg (by rw [hc]; exact Bool.false_ne_true)] at h0
    exact (h1 hc _ (Out.sb h0)).monoT fun d r2 G2 ⟨m2, m3, m4⟩ => by subst m2 m3; exact q d m4, fun hc => by
    rw [if_pos hc] at h0
    exact q true h0⟩)
end
/-! ### typed views of data operations -/
section
variable {α β γ : Type}
/-- an item by a Python index -/
def pix (xs : List α) (i : Int) : Option α := (ixN xs.length i).bind fun j => xs[j]?
theorem atD_map {f : α → D} {xs : List α} {i : Int} {x : α} (h : pix xs i = some x) : atD (xs.map f) i = some (f x) := by
  unfold pix at h
  unfold atD
  rw [List.length_map]
  cases e : ixN xs.length i with
  | none => rw [e] at h; cases h
  | some j =>
    rw [e] at h
    show (xs.map f)[j]? = some (f x)
    rw [List.getElem?_map, show xs[j]? = some x from h]; rfl
/-- a slice by Python bounds -/
def pcut (xs : List α) (lo hi : Option Int) : List α := (xs.drop (HT.sIx xs.length 0 lo)).take (HT.sIx xs.length xs.length hi - HT.sIx xs.length 0 lo)
theorem cutD_map {f : α → D} (xs : List α) (lo hi : Option Int) : cutD (xs.map f) lo hi = (pcut xs lo hi).map f := by
  unfold cutD pcut
  rw [List.length_map, List.map_take, List.map_drop]
theorem pcut_from (xs : List α) (j : Nat) : pcut xs (some (j : Int)) none = xs.drop j := by
  unfold pcut
  rw [HT.sIx_nat, HT.sIx_none]
  by_cases h : j ≤ xs.length
  · rw [Nat.min_eq_left h, List.take_of_length_le (by rw [List.length_drop]; exact Nat.le_refl _)]
  · rw [Nat.min_eq_right (by omega), List.drop_length, List.drop_eq_nil_of_le (by omega)]
    simp
theorem pcut_to (xs : List α) (j : Nat) : pcut xs none (some (j : Int)) = xs.take j := by
  unfold pcut
  rw [HT.sIx_nat, HT.sIx_none, List.drop_zero, Nat.sub_zero]
  by_cases h : j ≤ xs.length
  · rw [Nat.min_eq_left h]
  · rw [Nat.min_eq_right (by omega), List.take_length, List.take_of_length_le (by omega)]
/-- codes whose equality is that of the values -/
structure EqC (en : α → D) (n : Nat) : Prop where
  ok : ∀ a, okD n (en a)
  eq : ∀ a b, eqD (en a) (en b) = true ↔ a = b
theorem EqC.dec [DecidableEq α] {en : α → D} {n : Nat} (h : EqC en n) (a b : α) : eqD (en a) (en b) = decide (a = b) := by
  by_cases e : a = b
  · rw [decide_eq_true e]; exact (h.eq a b).mpr e
  · rw [decide_eq_false e]
    cases q : eqD (en a) (en b) with
    | false => rfl
    | true => exact absurd ((h.eq a b).mp q) e
theorem eqc_int : EqC eI 0 := ⟨fun _ => trivial, fun a b => by
  show PyData.eqv (.int a) (.int b) = true ↔ a = b
  exact beq_iff_eq⟩
theorem okD_up : ∀ {n : Nat} {d : D}, okD n d → okD (n + 1) d := by
  intro n
  induction n with
  | zero => intro d h; cases d <;> first | exact h | exact h.elim | trivial
  | succ n ih =>
    intro d h
    cases d <;> first | exact h.elim | trivial | (intro x hx; exact ih (h x hx))
end

open Out (Rt)
/-! ### texts of the mirrors -/
abbrev S := { x : Str // PyData.strOk x = true }
abbrev eZ : S → D := fun s => .str s.1
abbrev kZ : S → Key := fun s => Sum.inr s.1
theorem kZ_inj : KInj kZ := fun a b h => Subtype.ext (Sum.inr.inj h)
theorem eqc_bool : EqC eB 0 := ⟨fun _ => trivial, fun a b => by
  show PyData.eqv (.bool a) (.bool b) = true ↔ a = b
  exact beq_iff_eq⟩
theorem eqc_str : EqC eZ 0 := ⟨fun a => a.2, fun a b => by
  show PyData.eqv (.str a.1) (.str b.1) = true ↔ a = b
  rw [show PyData.eqv (.str a.1) (.str b.1) = (a.1 == b.1) from rfl, beq_iff_eq]
  exact ⟨Subtype.ext, congrArg _⟩⟩
theorem eqv_all {α : Type} {f : α → D} {n : Nat} (h : EqC f n) : ∀ xs ys : List α, PyData.eqvAll (toPs (xs.map f)) (toPs (ys.map f)) = true ↔ xs = ys
  | [], [] => by simp [toPs, PyData.eqvAll]
  | [], y :: ys => by simp [toPs, PyData.eqvAll]
  | x :: xs, [] => by simp [toPs, PyData.eqvAll]
  | x :: xs, y :: ys => by
    show (PyData.eqv (toP (f x)) (toP (f y)) && PyData.eqvAll (toPs (xs.map f)) (toPs (ys.map f))) = true ↔ _
    rw [Bool.and_eq_true, eqv_all h xs ys, show PyData.eqv (toP (f x)) (toP (f y)) = true ↔ x = y from h.eq x y, List.cons.injEq]
theorem eqc_tup {α : Type} {f : α → D} {n : Nat} (h : EqC f n) : EqC (eT f) (n + 1) := ⟨fun xs d hd => by
  obtain ⟨x, _, rfl⟩ := List.mem_map.mp hd
  exact h.ok x, fun a b => eqv_all h a b⟩
theorem eqc_lst {α : Type} {f : α → D} {n : Nat} (h : EqC f n) : EqC (eL f) (n + 1) := ⟨fun xs d hd => by
  obtain ⟨x, _, rfl⟩ := List.mem_map.mp hd
  exact h.ok x, fun a b => eqv_all h a b⟩
theorem okD_mono {n m : Nat} {d : D} (h : okD n d) (hm : n ≤ m) : okD m d := by
  induction hm with
  | refl => exact h
  | step _ ih => exact okD_up ih
theorem EqC.up {α : Type} {f : α → D} {n m : Nat} (h : EqC f n) (hm : n ≤ m) : EqC f m := ⟨fun a => okD_mono (h.ok a) hm, h.eq⟩
theorem eqc_pair {α β : Type} {f : α → D} {g : β → D} {n : Nat} (h : EqC f n) (k : EqC g n) : EqC (eP f g) (n + 1) := ⟨fun p d hd => by
  rcases List.mem_cons.mp hd with rfl | hd
  · exact h.ok _
  · rcases List.mem_cons.mp hd with rfl | hd
    · exact k.ok _
    · exact absurd hd List.not_mem_nil, fun a b => by
  show (PyData.eqv (toP (f a.1)) (toP (f b.1)) && (PyData.eqv (toP (g a.2)) (toP (g b.2)) && true)) = true ↔ _
  rw [Bool.and_true, Bool.and_eq_true, show PyData.eqv (toP (f a.1)) (toP (f b.1)) = true ↔ _ from h.eq _ _, show PyData.eqv (toP (g a.2)) (toP (g b.2)) = true ↔ _ from k.eq _ _, Prod.ext_iff]⟩
theorem eqc_trip {α β γ : Type} {f : α → D} {g : β → D} {k : γ → D} {n : Nat} (h : EqC f n) (h2 : EqC g n) (h3 : EqC k n) : EqC (eP3 f g k) (n + 1) := ⟨fun p d hd => by
  rcases List.mem_cons.mp hd with rfl | hd
  · exact h.ok _
  · rcases List.mem_cons.mp hd with rfl | hd
    · exact h2.ok _
    · rcases List.mem_cons.mp hd with rfl | hd
      · exact h3.ok _
      · exact absurd hd List.not_mem_nil, fun a b => by
  show (PyData.eqv (toP (f a.1)) (toP (f b.1)) && (PyData.eqv (toP (g a.2.1)) (toP (g b.2.1)) && (PyData.eqv (toP (k a.2.2)) (toP (k b.2.2)) && true))) = true ↔ _
  rw [Bool.and_true, Bool.and_eq_true, Bool.and_eq_true, show PyData.eqv (toP (f a.1)) (toP (f b.1)) = true ↔ _ from h.eq _ _, show PyData.eqv (toP (g a.2.1)) (toP (g b.2.1)) = true ↔ _ from h2.eq _ _, show PyData.eqv (toP (k a.2.2)) (toP (k b.2.2)) = true ↔ _ from h3.eq _ _, Prod.ext_iff, Prod.ext_iff]⟩
theorem eqc_opt {α : Type} {f : α → D} {n : Nat} (h : EqC f n) (hn : ∀ a, eqD .non (f a) = false) (hn' : ∀ a, eqD (f a) .non = false) : EqC (eO f) n := ⟨fun o => by
  cases o with
  | none => cases n <;> trivial
  | some a => exact h.ok a, fun a b => by
  cases a with
  | none =>
    cases b with
    | none => exact ⟨fun _ => rfl, fun _ => rfl⟩
    | some b =>
      show eqD .non (f b) = true ↔ _
      rw [hn b]; simp
  | some a =>
    cases b with
    | none =>
      show eqD (f a) .non = true ↔ _
      rw [hn' a]; simp
    | some b =>
      show eqD (f a) (f b) = true ↔ _
      rw [h.eq a b, Option.some.injEq]⟩
section
variable {X : Cy} {e a b c o tg kx vx elt i : Expr} {es ifs : List Expr} {st : Stmt} {sts rest body orelse : List Stmt} {r : Env2} {G : GD} {pos tpos apos cpos p0 : Pos} {D0 : EndsD} {α β γ σT ρ : Type}
theorem opw_eqC [DecidableEq α] {en : α → D} {n : Nat} (h : EqC en n) (hu : X.A.units + 64 < cLine) (x y : α) {Q : Res → Prop} (q : Q (.sh (.bl (decide (x = y))))) (hn : n ≤ 64 := by decide) : OpW X (compareOp .Eq) (en x) (en y) Q :=
  opw_eqD hu (h.ok x) (h.ok y) hn (by rw [h.dec]; exact q)
theorem opw_neC [DecidableEq α] {en : α → D} {n : Nat} (h : EqC en n) (hu : X.A.units + 64 < cLine) (x y : α) {Q : Res → Prop} (q : Q (.sh (.bl (!decide (x = y))))) (hn : n ≤ 64 := by decide) : OpW X (compareOp .NotEq) (en x) (en y) Q :=
  opw_neD hu (h.ok x) (h.ok y) hn (by rw [h.dec]; exact q)
/-! ### lists and tuples -/
theorem t_cat {f : α → D} (xs ys : List α) {Q : Res → Prop} (hl : xs.length + ys.length ≤ LIM) (q : Q (.fr (.lst ((xs ++ ys).map f)))) : OpW X (binaryOp .Add) (.lst (xs.map f)) (.lst (ys.map f)) Q :=
  opw_cat (by rw [List.length_map, List.length_map]; exact hl) (by rw [List.map_append] at q; exact q)
theorem t_catT {f : α → D} (xs ys : List α) {Q : Res → Prop} (hl : xs.length + ys.length ≤ LIM) (q : Q (.sh (.tup ((xs ++ ys).map f)))) : OpW X (binaryOp .Add) (.tup (xs.map f)) (.tup (ys.map f)) Q :=
  opw_catT (by rw [List.length_map, List.length_map]; exact hl) (by rw [List.map_append] at q; exact q)
theorem t_len {f : α → D} (xs : List α) {Q : Res → Prop} (q : Q (.sh (.int (xs.length : Nat)))) : CallW1 X (.builtin "len") (.lst (xs.map f)) Q := c_len (by rw [List.length_map]; exact q)
theorem t_lenT {f : α → D} (xs : List α) {Q : Res → Prop} (q : Q (.sh (.int (xs.length : Nat)))) : CallW1 X (.builtin "len") (.tup (xs.map f)) Q := c_lenT (by rw [List.length_map]; exact q)
theorem t_lenD {κ ν : Type} {k : κ → Key} {f : ν → D} (kvs : List (κ × ν)) {Q : Res → Prop} (q : Q (.sh (.int (kvs.length : Nat)))) : CallW1 X (.builtin "len") (eD k f kvs) Q := by
  have := c_lenD (X := X) (Q := Q) (acc := eDl k f kvs) (by unfold eDl; rw [List.length_map]; exact q)
  rw [eD_dicD] at this
  exact this
theorem t_ix {f : α → D} {xs : List α} {i : Int} {x : α} {Q : Res → Prop} (h : pix xs i = some x) (q : Q (.sh (f x))) : IxW X (.lst (xs.map f)) (.int i) Q := ixw_lst (atD_map h) q
theorem t_ixT {f : α → D} {xs : List α} {i : Int} {x : α} {Q : Res → Prop} (h : pix xs i = some x) (q : Q (.sh (f x))) : IxW X (.tup (xs.map f)) (.int i) Q := ixw_tup (atD_map h) q
theorem t_sl {f : α → D} {xs : List α} {lo hi : Option Int} {Q : Res → Prop} (q : Q (.fr (.lst ((pcut xs lo hi).map f)))) : SlW X (.lst (xs.map f)) lo hi Q := slw_lst (by rw [cutD_map]; exact q)
theorem t_slT {f : α → D} {xs : List α} {lo hi : Option Int} {Q : Res → Prop} (q : Q (.sh (.tup ((pcut xs lo hi).map f)))) : SlW X (.tup (xs.map f)) lo hi Q := slw_tup (by rw [cutD_map]; exact q)
/-- xs.append(e), xs an own slot -/
theorem we_appendT {f : α → D} {Q : Res → Env2 → GD → Prop}
    (h : WE X o r G fun x r1 G1 => ∃ i xs0, x = .pk i ∧ r1[i]? = some (.own (.lst (List.map f xs0))) ∧ WE X e r1 G1 fun y r2 G2 => ∃ z r3 xs, fz r2 y = some (f z, r3) ∧ r3[i]? = some (.own (.lst (List.map f xs))) ∧ xs.length < LIM ∧ Q (.sh .non) (r3.set i (.own (.lst ((xs ++ [z]).map f)))) G2)
    (hbase : attributeBase o "append" X.env (eval o X.env) = eval o X.env := by rfl)
    (hfew : ((backTo cpos (starEach [e] X.env)).all (fun x => !x.1) && (backToKw cpos (keywordEach [] X.env)).all (fun x => x.1.isSome) && decide (([e] : List Expr).length + ([] : List Keyword).length + (if ([] : List Keyword).isEmpty then 0 else 1) < 30)) = true := by rfl)
    (hline : (apos.endLine == cpos.line) = true := by rfl) (hs : starEach [e] X.env = (false, eval e X.env) :: starEach [] X.env := by rfl) (hplain : (backTo cpos (starEach [] X.env)).any (·.1) = false := by rfl) :
    WE X (.Call (.Attribute o "append" apos) [e] [] cpos) r G Q :=
  we_append (h.mono fun x r1 G1 ⟨i, xs0, h1, h2, h3⟩ => ⟨i, _, h1, h2, h3.mono fun y r2 G2 ⟨z, r3, xs, k1, k2, k3, k4⟩ => ⟨f z, r3, _, k1, k2, by rw [List.length_map]; exact k3, by rw [List.map_append] at k4; exact k4⟩⟩) hbase hfew hline hs hplain
theorem we_extendT {f : α → D} {Q : Res → Env2 → GD → Prop}
    (h : WE X o r G fun x r1 G1 => ∃ i xs0, x = .pk i ∧ r1[i]? = some (.own (.lst (List.map f xs0))) ∧ WE X e r1 G1 fun y r2 G2 => ∃ zs r3 xs, fz r2 y = some (.lst (List.map f zs), r3) ∧ r3[i]? = some (.own (.lst (List.map f xs))) ∧ xs.length + zs.length ≤ LIM ∧ Q (.sh .non) (r3.set i (.own (.lst ((xs ++ zs).map f)))) G2)
    (hbase : attributeBase o "extend" X.env (eval o X.env) = eval o X.env := by rfl)
    (hfew : ((backTo cpos (starEach [e] X.env)).all (fun x => !x.1) && (backToKw cpos (keywordEach [] X.env)).all (fun x => x.1.isSome) && decide (([e] : List Expr).length + ([] : List Keyword).length + (if ([] : List Keyword).isEmpty then 0 else 1) < 30)) = true := by rfl)
    (hline : (apos.endLine == cpos.line) = true := by rfl) (hs : starEach [e] X.env = (false, eval e X.env) :: starEach [] X.env := by rfl) (hplain : (backTo cpos (starEach [] X.env)).any (·.1) = false := by rfl) :
    WE X (.Call (.Attribute o "extend" apos) [e] [] cpos) r G Q :=
  we_extend (h.mono fun x r1 G1 ⟨i, xs0, h1, h2, h3⟩ => ⟨i, _, h1, h2, h3.mono fun y r2 G2 ⟨zs, r3, xs, k1, k2, k3, k4⟩ => ⟨_, r3, _, k1, k2, by rw [List.length_map, List.length_map]; exact k3, by rw [List.map_append] at k4; exact k4⟩⟩) hbase hfew hline hs hplain
/-- xs.pop(i) -/
theorem we_popT {f : α → D} {Q : Res → Env2 → GD → Prop}
    (h : WE X o r G fun x r1 G1 => ∃ i xs0, x = .pk i ∧ r1[i]? = some (.own (.lst (List.map f xs0))) ∧ WE X e r1 G1 fun y r2 G2 => ∃ (j : Int) (xs : List α) (z : α), y = .sh (.int j) ∧ r2[i]? = some (.own (.lst (List.map f xs))) ∧ 0 ≤ j ∧ xs[j.toNat]? = some z ∧ xs.length ≤ LIM ∧ Q (.sh (f z)) (r2.set i (.own (.lst ((xs.eraseIdx j.toNat).map f)))) G2)
    (hbase : attributeBase o "pop" X.env (eval o X.env) = eval o X.env := by rfl)
    (hfew : ((backTo cpos (starEach [e] X.env)).all (fun x => !x.1) && (backToKw cpos (keywordEach [] X.env)).all (fun x => x.1.isSome) && decide (([e] : List Expr).length + ([] : List Keyword).length + (if ([] : List Keyword).isEmpty then 0 else 1) < 30)) = true := by rfl)
    (hline : (apos.endLine == cpos.line) = true := by rfl) (hs : starEach [e] X.env = (false, eval e X.env) :: starEach [] X.env := by rfl) (hplain : (backTo cpos (starEach [] X.env)).any (·.1) = false := by rfl) :
    WE X (.Call (.Attribute o "pop" apos) [e] [] cpos) r G Q :=
  we_popAt (h.mono fun x r1 G1 ⟨i, xs0, h1, h2, h3⟩ => ⟨i, _, h1, h2, h3.mono fun y r2 G2 ⟨j, xs, z, k1, k2, k3, k4, k5, k6⟩ => by
    subst k1
    refine ⟨j.toNat, r2, _, f z, ?_, k2, by rw [List.getElem?_map, k4]; rfl, by rw [List.length_map]; exact k5, by rw [map_erase] at k6; exact k6⟩
    show some (D.int j, r2) = some (D.int ((j.toNat : Nat) : Int), r2)
    rw [Int.toNat_of_nonneg k3]⟩) hbase hfew hline hs hplain
theorem we_pop0T {f : α → D} {Q : Res → Env2 → GD → Prop}
    (h : WE X o r G fun x r1 G1 => ∃ i xs z, x = .pk i ∧ r1[i]? = some (.own (.lst (List.map f xs))) ∧ xs.getLast? = some z ∧ Q (.sh (f z)) (r1.set i (.own (.lst (xs.dropLast.map f)))) G1)
    (hbase : attributeBase o "pop" X.env (eval o X.env) = eval o X.env := by rfl) (hline : (apos.endLine == cpos.line) = true := by rfl) : WE X (.Call (.Attribute o "pop" apos) [] [] cpos) r G Q :=
  we_m0 PySem.F.plainAttrs_list PySem.F.slot_list_pop PySem.F.type_list_pop (h.mono fun x r1 G1 ⟨i, xs, z, h1, h2, h3, h4⟩ => ⟨i, _, h1, h2, mw_pop (d := f z) (by
    rw [List.getLast?_eq_getElem?] at h3
    rw [List.length_map, List.getElem?_map, h3]; rfl) (by rw [List.map_dropLast] at h4; exact h4)⟩) hbase hline
/-! ### what is walked -/
def penumF (k : Nat) : List α → List (Int × α)
  | [] => []
  | x :: xs => ((k : Int), x) :: penumF (k + 1) xs
/-- enumerate -/
def penum (xs : List α) : List (Int × α) := penumF 0 xs
theorem enum_map {f : α → D} : ∀ (xs : List α) (k : Nat), enumD k (xs.map f) = (penumF k xs).map (eP eI f)
  | [], k => rfl
  | x :: xs, k => by
    rw [List.map_cons]
    show D.tup [.int (k : Int), f x] :: enumD (k + 1) (xs.map f) = _
    rw [enum_map xs (k + 1)]; rfl
theorem penumF_len : ∀ (xs : List α) (k : Nat), (penumF k xs).length = xs.length
  | [], _ => rfl
  | x :: xs, k => by unfold penumF; rw [List.length_cons, List.length_cons, penumF_len xs]
section
variable {elts : List Expr} {kk : Nat}
theorem ti_lst {f : α → D} {Q : List D → Env2 → GD → Prop} (h : WE X e r G fun x r1 G1 => ∃ xs r2, fz r1 x = some (.lst (List.map f xs), r2) ∧ (xs.length ≤ LIM → Q (xs.map f) r2 G1)) : WI X tg e r G Q :=
  wi_lst (h.mono fun x r1 G1 ⟨xs, r2, h1, h2⟩ => ⟨_, r2, h1, fun hl => h2 (by rw [List.length_map] at hl; exact hl)⟩)
theorem ti_tup {f : α → D} {Q : List D → Env2 → GD → Prop} (h : WE X e r G fun x r1 G1 => ∃ xs r2, fz r1 x = some (.tup (List.map f xs), r2) ∧ (xs.length ≤ LIM → Q (xs.map f) r2 G1)) : WI X tg e r G Q :=
  wi_tup (h.mono fun x r1 G1 ⟨xs, r2, h1, h2⟩ => ⟨_, r2, h1, fun hl => h2 (by rw [List.length_map] at hl; exact hl)⟩)
theorem ti_enumL {f : α → D} {Q : List D → Env2 → GD → Prop} (hg : Gl X "enumerate") (hm : X.mg "enumerate" = none) (h : WE X a r G fun x r1 G1 => ∃ xs r2, fz r1 x = some (.lst (List.map f xs), r2) ∧ ((penum xs).length ≤ LIM → Q ((penum xs).map (eP eI f)) r2 G1)) (hst : starEach [a] X.env = [(false, eval a X.env)] := by rfl) :
    WI X (.Tuple elts kk tpos) (.Call (.Name "enumerate" p0) [a] [] pos) r G Q :=
  wi_enumL hg hm (h.mono fun x r1 G1 ⟨xs, r2, h1, h2⟩ => ⟨_, r2, h1, fun hl => by rw [enum_map]; exact h2 (by unfold penum; rw [penumF_len]; rw [List.length_map] at hl; exact hl)⟩) hst
theorem ti_enumT {f : α → D} {Q : List D → Env2 → GD → Prop} (hg : Gl X "enumerate") (hm : X.mg "enumerate" = none) (h : WE X a r G fun x r1 G1 => ∃ xs r2, fz r1 x = some (.tup (List.map f xs), r2) ∧ ((penum xs).length ≤ LIM → Q ((penum xs).map (eP eI f)) r2 G1)) (hst : starEach [a] X.env = [(false, eval a X.env)] := by rfl) :
    WI X (.Tuple elts kk tpos) (.Call (.Name "enumerate" p0) [a] [] pos) r G Q :=
  wi_enumT hg hm (h.mono fun x r1 G1 ⟨xs, r2, h1, h2⟩ => ⟨_, r2, h1, fun hl => by rw [enum_map]; exact h2 (by unfold penum; rw [penumF_len]; rw [List.length_map] at hl; exact hl)⟩) hst
theorem ti_revL {f : α → D} {Q : List D → Env2 → GD → Prop} (hg : Gl X "reversed") (hm : X.mg "reversed" = none) (h : WE X a r G fun x r1 G1 => ∃ xs r2, fz r1 x = some (.lst (List.map f xs), r2) ∧ (xs.reverse.length ≤ LIM → Q (xs.reverse.map f) r2 G1)) (hst : starEach [a] X.env = (false, eval a X.env) :: starEach [] X.env := by rfl) :
    WI X tg (.Call (.Name "reversed" p0) [a] [] pos) r G Q :=
  wi_revL hg hm (h.mono fun x r1 G1 ⟨xs, r2, h1, h2⟩ => ⟨_, r2, h1, fun hl => by rw [← List.map_reverse]; exact h2 (by rw [List.length_reverse]; rw [List.length_map] at hl; exact hl)⟩) hst
theorem ti_revT {f : α → D} {Q : List D → Env2 → GD → Prop} (hg : Gl X "reversed") (hm : X.mg "reversed" = none) (h : WE X a r G fun x r1 G1 => ∃ xs r2, fz r1 x = some (.tup (List.map f xs), r2) ∧ (xs.reverse.length ≤ LIM → Q (xs.reverse.map f) r2 G1)) (hst : starEach [a] X.env = (false, eval a X.env) :: starEach [] X.env := by rfl) :
    WI X tg (.Call (.Name "reversed" p0) [a] [] pos) r G Q :=
  wi_revT hg hm (h.mono fun x r1 G1 ⟨xs, r2, h1, h2⟩ => ⟨_, r2, h1, fun hl => by rw [← List.map_reverse]; exact h2 (by rw [List.length_reverse]; rw [List.length_map] at hl; exact hl)⟩) hst
theorem ti_keys {κ ν : Type} {k : κ → Key} {f : ν → D} {Q : List D → Env2 → GD → Prop} (h : WE X e r G fun x r1 G1 => ∃ kvs r2, fz r1 x = some (eD k f kvs, r2) ∧ ((kvs.map (·.1)).length ≤ LIM → Q ((kvs.map (·.1)).map fun x => kD (k x)) r2 G1)) : WI X tg e r G Q :=
  wi_keys (h.mono fun x r1 G1 ⟨kvs, r2, h1, h2⟩ => ⟨_, _, r2, h1, fun hl => by
    rw [List.length_map] at hl
    have := h2 (by rw [List.length_map]; exact hl)
    rw [List.map_map] at this ⊢
    exact this⟩)
theorem ti_items {κ ν : Type} {k : κ → Key} {f : ν → D} {Q : List D → Env2 → GD → Prop} (h : WE X e r G fun x r1 G1 => ∃ kvs r2, fz r1 x = some (eD k f kvs, r2) ∧ (kvs.length ≤ LIM → Q (kvs.map (eP (fun x => kD (k x)) f)) r2 G1))
    (hbase : attributeBase e "items" X.env (eval e X.env) = eval e X.env := by rfl) (hline : (apos.endLine == cpos.line) = true := by rfl) : WI X (.Tuple elts kk tpos) (.Call (.Attribute e "items" apos) [] [] cpos) r G Q :=
  wi_items (h.mono fun x r1 G1 ⟨kvs, r2, h1, h2⟩ => ⟨_, _, r2, h1, fun hl => by
    rw [List.length_map] at hl
    rw [zip_eDl]
    unfold eDl
    rw [List.map_map]
    exact h2 hl⟩) hbase hline
theorem ti_values {κ ν : Type} {k : κ → Key} {f : ν → D} {Q : List D → Env2 → GD → Prop} (h : WE X e r G fun x r1 G1 => ∃ kvs r2, fz r1 x = some (eD k f kvs, r2) ∧ ((kvs.map (·.2)).length ≤ LIM → Q ((kvs.map (·.2)).map f) r2 G1))
    (hbase : attributeBase e "values" X.env (eval e X.env) = eval e X.env := by rfl) (hline : (apos.endLine == cpos.line) = true := by rfl) : WI X tg (.Call (.Attribute e "values" apos) [] [] cpos) r G Q :=
  wi_values (h.mono fun x r1 G1 ⟨kvs, r2, h1, h2⟩ => ⟨_, _, r2, h1, fun hl => by
    rw [List.length_map] at hl
    have := h2 (by rw [List.length_map]; exact hl)
    rw [List.map_map] at this
    exact this⟩) hbase hline
end
/-! ### numbers -/
theorem t_mul {i j : Int} {Q : Res → Prop} (hc : (-(2 ^ 64) < i ∧ i < 2 ^ 64) ∨ (-(2 ^ 64) < j ∧ j < 2 ^ 64)) (q : Q (.sh (.int (i * j)))) : OpW X (binaryOp .Mult) (.int i) (.int j) Q := opw_mul hc q
/-- max, min of a list of ints -/
def maxI : List Int → Option Int
  | [] => none
  | x :: xs => some (xs.foldl (fun a b => if a < b then b else a) x)
def minI : List Int → Option Int
  | [] => none
  | x :: xs => some (xs.foldl (fun a b => if b < a then b else a) x)
theorem fold_max : ∀ (xs : List Int) (x : Int), (xs.foldl (fun a b => if a < b then b else a) x ∈ x :: xs) ∧ ∀ y ∈ x :: xs, y ≤ xs.foldl (fun a b => if a < b then b else a) x
  | [], x => ⟨List.mem_cons_self, fun y hy => by cases List.mem_singleton.mp hy; exact Int.le_refl _⟩
  | z :: xs, x => by
    rw [List.foldl_cons]
    by_cases hxz : x < z
    · rw [if_pos hxz]
      obtain ⟨h1, h2⟩ := fold_max xs z
      have h3 := h2 _ List.mem_cons_self
      refine ⟨List.mem_cons_of_mem _ h1, fun y hy => ?_⟩
      rcases List.mem_cons.mp hy with rfl | hy
      · omega
      · exact h2 y hy
    · rw [if_neg hxz]
      obtain ⟨h1, h2⟩ := fold_max xs x
      have h3 := h2 _ List.mem_cons_self
      refine ⟨?_, fun y hy => ?_⟩
      · rcases List.mem_cons.mp h1 with h | h
        · rw [h]; exact List.mem_cons_self
        · exact List.mem_cons_of_mem _ (List.mem_cons_of_mem _ h)
      · rcases List.mem_cons.mp hy with rfl | hy
        · exact h3
        · rcases List.mem_cons.mp hy with rfl | hy
          · omega
          · exact h2 y (List.mem_cons_of_mem _ hy)
theorem fold_min : ∀ (xs : List Int) (x : Int), (xs.foldl (fun a b => if b < a then b else a) x ∈ x :: xs) ∧ ∀ y ∈ x :: xs, xs.foldl (fun a b => if b < a then b else a) x ≤ y
  | [], x => ⟨List.mem_cons_self, fun y hy => by cases List.mem_singleton.mp hy; exact Int.le_refl _⟩
  | z :: xs, x => by
    rw [List.foldl_cons]
    by_cases hxz : z < x
    · rw [if_pos hxz]
      obtain ⟨h1, h2⟩ := fold_min xs z
      have h3 := h2 _ List.mem_cons_self
      refine ⟨List.mem_cons_of_mem _ h1, fun y hy => ?_⟩
      rcases List.mem_cons.mp hy with rfl | hy
      · omega
      · exact h2 y hy
    · rw [if_neg hxz]
      obtain ⟨h1, h2⟩ := fold_min xs x
      have h3 := h2 _ List.mem_cons_self
      refine ⟨?_, fun y hy => ?_⟩
      · rcases List.mem_cons.mp h1 with h | h
        · rw [h]; exact List.mem_cons_self
        · exact List.mem_cons_of_mem _ (List.mem_cons_of_mem _ h)
      · rcases List.mem_cons.mp hy with rfl | hy
        · exact h3
        · rcases List.mem_cons.mp hy with rfl | hy
          · omega
          · exact h2 y (List.mem_cons_of_mem _ hy)
theorem maxI_spec {xs : List Int} {m : Int} (h : maxI xs = some m) : m ∈ xs ∧ ∀ y ∈ xs, y ≤ m := by
  cases xs with
  | nil => cases h
  | cons x xs => cases h; exact fold_max xs x
theorem minI_spec {xs : List Int} {m : Int} (h : minI xs = some m) : m ∈ xs ∧ ∀ y ∈ xs, m ≤ y := by
  cases xs with
  | nil => cases h
  | cons x xs => cases h; exact fold_min xs x
theorem t_max {Q : Res → Prop} {ns : List Int} {m : Int} (hc : X.calm = true) (h : maxI ns = some m) (q : Q (.sh (.int m))) : CallW1 X (.builtin "max") (.lst (ns.map D.int)) Q :=
  c_maxL hc (fun z => by subst z; cases h) fun m' h1 h2 => by
    obtain ⟨k1, k2⟩ := maxI_spec h
    rw [show m' = m from Int.le_antisymm (k2 _ h1) (h2 _ k1)]; exact q
theorem t_min {Q : Res → Prop} {ns : List Int} {m : Int} (hc : X.calm = true) (h : minI ns = some m) (q : Q (.sh (.int m))) : CallW1 X (.builtin "min") (.lst (ns.map D.int)) Q :=
  c_minL hc (fun z => by subst z; cases h) fun m' h1 h2 => by
    obtain ⟨k1, k2⟩ := minI_spec h
    rw [show m' = m from Int.le_antisymm (h2 _ k1) (k2 _ h1)]; exact q
/-- the first place of a number -/
def idxI (k : Int) : List Int → Option Nat
  | [] => none
  | x :: xs => if x = k then some 0 else (idxI k xs).map (· + 1)
theorem idxI_spec {k : Int} : ∀ {xs : List Int} {j : Nat}, idxI k xs = some j → xs[j]? = some k ∧ ∀ m, m < j → xs[m]? ≠ some k
  | [], j, h => by cases h
  | x :: xs, j, h => by
    unfold idxI at h
    by_cases hx : x = k
    · rw [if_pos hx] at h; cases h
      exact ⟨by rw [hx]; rfl, fun m hm => absurd hm (Nat.not_lt_zero m)⟩
    · rw [if_neg hx] at h
      cases hi : idxI k xs with
      | none => rw [hi] at h; cases h
      | some j' =>
        rw [hi] at h; cases h
        obtain ⟨h1, h2⟩ := idxI_spec hi
        refine ⟨by rw [List.getElem?_cons_succ]; exact h1, fun m hm => ?_⟩
        cases m with
        | zero => intro z; simp at z; exact hx z
        | succ m => rw [List.getElem?_cons_succ]; exact h2 m (by have hm2 : m + 1 < j' + 1 := hm; omega)
theorem t_index {Q : Res → Prop} {ns : List Int} {k : Int} {j : Nat} (h : idxI k ns = some j) (q : Q (.sh (.int (j : Nat)))) : MtW X "list.index" (.lst (ns.map D.int)) (.int k) Q := mw_index (idxI_spec h).1 (idxI_spec h).2 q
/-- sorted(d), the keys ints -/
theorem t_sortedD {ν : Type} {f : ν → D} {Q : Res → Prop} (kvs : List (Int × ν)) (hcalm : X.calm = true) (q : Q (.fr (.lst ((isort (kvs.map (·.1))).map D.int)))) : CallW1 X (.builtin "sorted") (eD kI f kvs) Q := by
  have := c_sortedD (X := X) (ks := kvs.map (·.1)) (ds := kvs.map fun p => f p.2) hcalm q
  rw [List.map_map] at this
  exact this
end

open Out (Rt)
/-- a text of the mirrors -/
abbrev zs (x : Str) (h : PyData.strOk x = true := by decide) : S := ⟨x, h⟩
section
variable {X : Cy} {e a b c o tg kx vx elt i : Expr} {es ifs : List Expr} {st : Stmt} {sts rest body orelse : List Stmt} {r : Env2} {G : GD} {pos tpos apos cpos p0 : Pos} {D0 : EndsD} {α β γ σT ρ : Type}
/-- [elt for tg in e if ..], by a mirror with a state -/
theorem lcS_preP {scope : Scope} (own : List (Str × Nat)) (R : Env2) (gg : σT → GD) {en : α → D} (ey : β → D) {Q : Res → Env2 → GD → Prop}
    (h : WI X tg e r G fun ds r2 G1 => ∃ (xs : List α) (s0 : σT) (f : σT → α → Out (Option β × σT)) (kk : List β × σT → Out γ) (Q0 : γ → Prop) (E : Xm → Prop), ds = xs.map en ∧ xs.length ≤ LIM ∧ Wk (wipeD r2 (own.map (·.2))) R ∧ G1 = gg s0 ∧ ((Out.compS f xs [] s0).bind kk).sat Q0 E ∧
      (∀ s x (Q' : Option β × σT → Prop), (f s x).sat Q' E → Blk X scope fun Y => WG Y tg (en x) R (gg s) (own.map (·.2)) fun r3 G3 => match ifs with
        | [] => Blk X scope fun Y => WE Y elt r3 G3 fun z r4 G4 => ∃ y s' r5, fz r4 z = some (ey y, r5) ∧ Wk (wipeD r5 (own.map (·.2))) R ∧ G4 = gg s' ∧ Q' (some y, s')
        | [c] => Blk X scope fun Y => WT Y c r3 G3 fun b r4 G4 => (b = true → Blk X scope fun Y => WE Y elt r4 G4 fun z r5 G5 => ∃ y s' r6, fz r5 z = some (ey y, r6) ∧ Wk (wipeD r6 (own.map (·.2))) R ∧ G5 = gg s' ∧ Q' (some y, s')) ∧ (b = false → ∃ s', Wk (wipeD r4 (own.map (·.2))) R ∧ G4 = gg s' ∧ Q' (none, s'))
        | _ => False) ∧ ∀ p : List β × σT, (kk p).sat Q0 E → Q (.fr (.lst (p.1.map ey))) R (gg p.2)) : LcPre X scope tg e elt ifs (own.map (·.2)) r G (atR Q) :=
  lcS_pre own R gg ey (h.mono fun ds r2 G1 ⟨xs, s0, f, kk, Q0, E, h1, h2, h3, h4, h5, h6, h7⟩ => ⟨xs, s0, f, kk, Q0, E, h1, h2, h3, h4, h5, h6, fun ys s' q => h7 (ys, s') q⟩)
/-- [x] * n -/
def rRepR : R2 := fun x y H Q => ∃ l k xs, x = .ref l ∧ y = .int k ∧ Rd H l (.lst xs) ∧ -(2 ^ 63) ≤ k ∧ k < 2 ^ 63 ∧ xs.length * k.toNat ≤ sizeLine ∧
  ∀ p, H p = none → Q (.ref p) (upd H p (.lst (List.replicate k.toNat xs).flatten))
theorem op_repR {X : Cx} : OpR X (binaryOp .Mult) rRepR := by
  intro pins s σ H x y v u Q I rx ry h
  obtain ⟨l, k, xs, rfl, rfl, hH, h1, h2, hz, q⟩ := h
  cases rx
  obtain ⟨t, rfl⟩ := ry
  obtain ⟨z, its, n, r, e⟩ := lst_of I hH
  have hl := r.length
  have hlen : its.toArray.size * k.toNat ≤ sizeLine := by rw [List.size_toArray, ← hl]; exact hz
  have hcap : ¬ its.toArray.size * k.toNat > (2 ^ 63 - 1) / 8 := by
    have : (sizeLine : Nat) ≤ (2 ^ 63 - 1) / 8 := by decide
    omega
  have hfit : ¬ (!Builtin.List.listFitsIndex k) = true := by
    rw [fitsIndex_both h1 h2]
    exact Bool.false_ne_true
  have hlong : ¬ Builtin.List.listTooLong (its.toArray.size * k.toNat) = true := by
    rw [notLongL hlen]
    exact Bool.false_ne_true
  have hnew : List.foldl (fun x1 x2 => x1 ++ x2) #[] (List.replicate (if its.toArray.isEmpty = true then 0 else k.toNat) its.toArray) = (List.replicate k.toNat its).flatten.toArray := by
    have f0 : ∀ m : Nat, List.foldl (fun x1 x2 => x1 ++ x2) #[] (List.replicate m its.toArray) = (List.replicate m its).flatten.toArray := fun m => by
      have := foldl_rep its m []
      rw [List.nil_append] at this
      exact this
    rw [f0]
    cases its with
    | nil => simp
    | cons a r' => rw [if_neg (by simp)]
  refine wpAny_binaryOp_repeat_ref (T := "list") (U := "int") (by decide) ⟨_, e, rfl⟩ (fun s' => typeIs_int s' k t) noFill_list_mul F.fills_int_mul F.slot_int_rmul repeat_list F.slot_int_index.lookup
    (call_meets F.slot_int_rmul (typeIs_int s k t) F.entry_int_rmul (F.args_int_rmul_2 _ _) (int___rmul___int_list k t l its.toArray n)
      ⟨e, rfl, ⟨_, e, rfl⟩, call_meets F.slot_list_mul ⟨_, e, rfl⟩ F.entry_list_mul (F.args_list_mul_2 _ _) (AutoListH.list___mul___list_int_3 l its.toArray n k t hfit hcap hlong) ⟨e, ?_⟩⟩)
  rw [hnew]
  exact ⟨.ref _, _, I.lnew (t' := s.toks) (r.rep k.toNat) (by rw [PyProof.Rows.lm_len_rep_flat, Nat.mul_comm]; exact hz), rfl, q _ I.fresh⟩
theorem flat_one : ∀ (n : Nat) (x : α), (List.replicate n [x]).flatten = List.replicate n x
  | 0, _ => rfl
  | n + 1, x => by rw [List.replicate_succ, List.flatten_cons, flat_one n x, List.replicate_succ]; rfl
theorem repL_rep {K : PySem.W.Frag} {F : Hp} {d : D} {v : V} (h : Rep K F d v) : ∀ n, RepL K F (List.replicate n d) (List.replicate n v)
  | 0 => rfl
  | n + 1 => ⟨v, List.replicate n v, rfl, h, repL_rep h n⟩
theorem t_rep {f : α → D} (x : α) {k : Int} (hk : -(2 ^ 62) ≤ k ∧ k ≤ (LIM : Nat)) {Q : Res → Prop} (q : Q (.fr (.lst ((List.replicate k.toNat x).map f)))) : OpW X (binaryOp .Mult) (.lst [f x]) (.int k) Q :=
  fun F0 T F G H r σ va vb S h1 h2 => by
    obtain ⟨p1, vs, rfl, k1, k2⟩ := h1.lst S.bas.fh
    obtain ⟨v, vs', e1, k3, k4⟩ := k2
    subst e1
    cases (show vs' = [] from k4)
    have e2 : vb = .int k := by
      rcases h2 with h | ⟨_, _, h⟩
      · exact h
      · exact h.elim
    subst e2
    refine ⟨_, op_repR, p1, k, [v], rfl, rfl, k1, by omega, by have := hk.2; unfold LIM at this; omega, ?_, fun p hp => ?_⟩
    · rw [List.length_singleton, Nat.one_mul]; exact lim_ok (by have := hk.2; omega)
    · rw [flat_one]
      obtain ⟨f1, f2, f3⟩ := S.bas.freshF hp
      exact ⟨.fr (.lst ((List.replicate k.toNat x).map f)), F, Ex.refl _, S.newH hp, ⟨p, rfl, ⟨_, upd_same, by rw [List.map_replicate]; exact repL_rep k3 _⟩, f1, f2, f3, S.freshR hp⟩, q⟩
/-- dict(pairs) -/
theorem fold_putD {κ ν : Type} [DecidableEq κ] {k : κ → Key} {f : ν → D} (hk : KInj k) : ∀ (xs acc : List (κ × ν)), (eDl k f xs).foldl (fun acc kv => putD acc kv.1 kv.2) (eDl k f acc) = eDl k f (xs.foldl (fun acc p => dput acc p.1 p.2) acc)
  | [], _ => rfl
  | x :: xs, acc => by
    show (eDl k f xs).foldl _ (putD (eDl k f acc) (k x.1) (f x.2)) = _
    rw [putD_eDl hk, fold_putD hk xs]; rfl
theorem t_dictP {κ ν : Type} [DecidableEq κ] {k : κ → Key} {f : ν → D} (hk : KInj k) (hc : X.calm = true) (xs : List (κ × ν)) {Q : Res → Prop} (q : Q (.fr (eD k f (dmk xs)))) : CallW1 X (.type "dict") (.lst (xs.map (eP (fun x => kD (k x)) f))) Q := by
  have e : (xs.map (eP (fun x => kD (k x)) f)) = (eDl k f xs).map fun kv => .tup [kD kv.1, kv.2] := by
    unfold eDl; rw [List.map_map]; rfl
  rw [e]
  refine c_dictP hc ?_
  have e2 := fold_putD (f := f) hk xs []
  rw [show eDl k f [] = [] from rfl] at e2
  rw [e2, eD_dicD]
  exact q
/-- what is not None -/
theorem we_some {f : α → D} {Q : Res → Env2 → GD → Prop} (h : WE X e r G fun z r1 G1 => ∃ (x : Option α) (y : α), z = .sh (eO f x) ∧ x = some y ∧ Q (.sh (f y)) r1 G1) : WE X e r G Q :=
  h.mono fun z r1 G1 ⟨x, y, h1, h2, q⟩ => by subst h1 h2; exact q
theorem t_isN {f : α → D} (hf : ∀ a, isNon (f a) = false) {x : Option α} {Q : Res → Prop} (q : Q (.sh (.bl x.isNone))) : OpW X (compareOp .Is) (eO f x) .non Q := by
  refine opw_isN ?_
  have : isNon (eO f x) = x.isNone := by
    cases x with
    | none => rfl
    | some a => exact hf a
  rw [this]; exact q
theorem t_notN {f : α → D} (hf : ∀ a, isNon (f a) = false) {x : Option α} {Q : Res → Prop} (q : Q (.sh (.bl (!x.isNone)))) : OpW X (compareOp .IsNot) (eO f x) .non Q := by
  refine opw_notN ?_
  have : isNon (eO f x) = x.isNone := by
    cases x with
    | none => rfl
    | some a => exact hf a
  rw [this]; exact q
theorem dg2_of {f : α → D} {d : α} {o : Option α} {P : D → Prop} (q : P (f (o.getD d))) : P (match o with | some v => f v | none => f d) := by
  cases o with
  | none => exact q
  | some v => exact q
theorem dg2_no {f : α → D} {o : Option α} {P : D → Prop} (q : P (eO f o)) : P (match o with | some v => f v | none => .non) := by
  cases o with
  | none => exact q
  | some v => exact q
/-- in, of items of any depth -/
theorem any_eq [DecidableEq α] {en : α → D} {n : Nat} (h : EqC en n) (x : α) : ∀ xs : List α, ((toPs (xs.map en)).any fun z => PyData.eqv z (toP (en x))) = decide (x ∈ xs)
  | [] => rfl
  | y :: xs => by
    show (PyData.eqv (toP (en y)) (toP (en x)) || (toPs (xs.map en)).any _) = _
    rw [any_eq h x xs]
    have e := h.dec y x
    unfold eqD at e
    rw [e]
    by_cases hy : x = y
    · subst hy; simp
    · rw [decide_eq_false (fun z => hy z.symm), Bool.false_or]
      simp [hy]
theorem t_inD [DecidableEq α] {en : α → D} {n : Nat} (h : EqC en n) (hu : X.A.units + 65 < cLine) (x : α) (xs : List α) {Q : Res → Prop} (q : Q (.sh (.bl (decide (x ∈ xs))))) (hn : n + 1 ≤ 64 := by decide) : OpW X (compareOp .In) (en x) (.lst (xs.map en)) Q := by
  have h2 := eqc_lst h
  refine opw_flat (d := .bl (decide (x ∈ xs))) (v := .bl (decide (x ∈ xs))) (fun _ _ => rfl) (fun F H va vb ex h1 h3 => ?_) q
  exact ⟨_, op_inD hu, fun P p => ⟨toP (en x), toPs (xs.map en), okD.dp ex _ _ _ (h.ok x) h1, okD.dp ex _ _ _ (h2.ok xs) h3, okD.shaped (h.ok x) (by omega), okD.shaped (h2.ok xs) hn, by rw [any_eq h]; exact p⟩⟩
theorem t_ninD [DecidableEq α] {en : α → D} {n : Nat} (h : EqC en n) (hu : X.A.units + 65 < cLine) (x : α) (xs : List α) {Q : Res → Prop} (q : Q (.sh (.bl (!decide (x ∈ xs))))) (hn : n + 1 ≤ 64 := by decide) : OpW X (compareOp .NotIn) (en x) (.lst (xs.map en)) Q := by
  have h2 := eqc_lst h
  refine opw_flat (d := .bl (!decide (x ∈ xs))) (v := .bl (!decide (x ∈ xs))) (fun _ _ => rfl) (fun F H va vb ex h1 h3 => ?_) q
  exact ⟨_, op_notInD hu, fun P p => ⟨toP (en x), toPs (xs.map en), okD.dp ex _ _ _ (h.ok x) h1, okD.dp ex _ _ _ (h2.ok xs) h3, okD.shaped (h.ok x) (by omega), okD.shaped (h2.ok xs) hn, by rw [any_eq h]; exact p⟩⟩
end

open Out (Rt)
/-! ### __init__ of a class with slots -/
abbrev Tin (G : GD) (H : Hp) (x dx : Addr) : Hp := fun a => if a = x ∨ a = dx then none else Tof G H a
theorem Bas.tin {K : PySem.W.Frag} {F F' H H' : Hp} {G G' : GD} {x dx : Addr} (B : Bas K F (Tof G H) F' G' H') : Bas K F (Tin G H x dx) F' G' H' := by
  refine ⟨B.ff, fun a o h => ?_, B.fh, B.gh, B.fg, fun a o h => ?_, fun a o h => ?_⟩
  · rcases B.ft a o h with z | z
    · exact .inl z
    · right; show (if _ then _ else _) = _; split
      · rfl
      · exact z
  · show (if _ then _ else _) = _
    split
    · rfl
    · exact B.gt a o h
  · have h' : (if a = x ∨ a = dx then none else Tof G H a) = some o := h
    split at h'
    · cases h'
    · exact B.tk a o h'
theorem init_frame {K : PySem.W.Frag} {F H F' H' H2 : Hp} {G G' : GD} {x dx C : Addr} {vs : List (Option V)} (B : Bas K F (Tof G H) F' G' H') (fx : F x = none) (fd : F dx = none) (gx : G x = none) (gd : G dx = none) (hx : H x = some (.ins C dx [])) (hd : H dx = some (.own x)) (hne : dx ≠ x) (e2 : H2 = SlX.slH H' x C dx vs) :
    ∃ F2, Ex F' F2 ∧ Bas K F (Tin G H x dx) F2 G' H2 ∧ SlX.Slt F2 x C dx vs := by
  have tx : Tof G H x = some (.ins C dx []) := by rw [Tof_none gx]; exact hx
  have td : Tof G H dx = some (.own x) := by rw [Tof_none gd]; exact hd
  have fx' : F' x = none := by
    cases e : F' x with
    | none => rfl
    | some u =>
      rcases B.ft x u e with z | z
      · rw [fx] at z; cases z
      · rw [tx] at z; cases z
  have fd' : F' dx = none := by
    cases e : F' dx with
    | none => rfl
    | some u =>
      rcases B.ft dx u e with z | z
      · rw [fd] at z; cases z
      · rw [td] at z; cases z
  have gx' : G' x = none := by
    cases e : G' x with
    | none => rfl
    | some u => have := B.gt x u e; rw [tx] at this; cases this
  have gd' : G' dx = none := by
    cases e : G' dx with
    | none => rfl
    | some u => have := B.gt dx u e; rw [td] at this; cases this
  have h2 : ∀ a, a ≠ x → a ≠ dx → H2 a = H' a := fun a h1 h2 => by rw [e2]; exact SlX.slH_ne h1 h2
  have ef : Ex F' (SlX.slH F' x C dx vs) := fun a o h => by rw [SlX.slH_ne (ne_of_none h fx') (ne_of_none h fd')]; exact h
  have ng : ∀ {a : Addr} {o : D}, G' a = some o → a ≠ x ∧ a ≠ dx := fun {a o} h => ⟨fun z => (by rw [z, gx'] at h; cases h), fun z => (by rw [z, gd'] at h; cases h)⟩
  refine ⟨SlX.slH F' x C dx vs, ef, ⟨fun a o h => ef a o (B.ff a o h), fun a o h => ?_, fun a o h => ?_, fun a o h => ?_, fun a o h => ?_, fun a o h => ?_, fun a o h => ?_⟩, SlX.slH_slt hne⟩
  · by_cases h1 : a = x
    · right; show (if _ then _ else _) = _; rw [if_pos (.inl h1)]
    · by_cases h2 : a = dx
      · right; show (if _ then _ else _) = _; rw [if_pos (.inr h2)]
      · rw [SlX.slH_ne h1 h2] at h
        rcases B.ft a o h with z | z
        · exact .inl z
        · right; show (if _ then _ else _) = _; rw [if_neg (by simp [h1, h2])]; exact z
  · by_cases h1 : a = x
    · subst h1; rw [e2]; unfold SlX.slH at h ⊢; rw [upd_same] at h ⊢; exact h
    · by_cases h3 : a = dx
      · subst h3; rw [e2]; unfold SlX.slH at h ⊢; rw [upd_ne h1, upd_same] at h ⊢; exact h
      · rw [SlX.slH_ne h1 h3] at h; rw [h2 a h1 h3]; exact B.fh a o h
  · obtain ⟨n1, n2⟩ := ng h
    exact (B.gh a o h).mono ef fun o q => by rw [h2 a n1 n2]; exact q
  · obtain ⟨n1, n2⟩ := ng h
    rw [SlX.slH_ne n1 n2]; exact B.fg a o h
  · show (if _ then _ else _) = _
    split
    · rfl
    · exact B.gt a o h
  · have h' : (if a = x ∨ a = dx then none else Tof G H a) = some o := h
    by_cases h1 : a = x ∨ a = dx
    · rw [if_pos h1] at h'; cases h'
    · rw [if_neg h1] at h'
      rw [h2 a (fun z => h1 (.inl z)) (fun z => h1 (.inr z))]; exact B.tk a o h'
section
variable {P : Program} {w : World} {K : PySem.W.Frag} {mg : Str → Option Value} {base : Heap}
/-- .. two slots, stored from names at the end: the second slot first -/
theorem init2r_ok {x qual : Str} {st : Stmt} {g : Addr} {fd : FuncData} {N ps : List Str} {k : Nat} {C q0 q1 : Addr} {f0 f1 : Str} {f : FSpI} (Fo : Fun K x qual st g fd) (S : FnScope N ps (defScope st)) (c : SlX.SCls K C) (t0 : SlX.Slot1 K C f0 q0 1) (t1 : SlX.Slot1 K C f1 q1 0)
    (len : ∀ ds G post px, f ds G post px → ds.length + 1 = ps.length)
    (pre : List Stmt) (s0 s1 : Stmt) (i0 i1 : Nat) (hb : defBody st = pre ++ [s0, s1])
    (hbody : ∀ (cdv : Value) (A : Around) (outer : List Env) (s : Shared) (H : Hp) (E : XK) (F T : Hp), Room k (A.deeper (envOfC qual (defScope st) s.heap.objs.size g cdv)) → ∀ (px : Exn → GD → Prop),
      PS (cyOf P w K mg base N qual (defScope st) g cdv A outer s H E F T px).toCx s0 (SlX.sSl K (tVar 0) (tVar i0) f0) ∧ PS (cyOf P w K mg base N qual (defScope st) g cdv A outer s H E F T px).toCx s1 (SlX.sSl K (tVar 0) (tVar i1) f1) ∧
      ∀ (a : Addr) (ds : List D) (G : GD) (post : List D → GD → Prop), f ds G post px → (cyOf P w K mg base N qual (defScope st) g cdv A outer s H E F T px).Tk → PassesOwn (model P w) (cyOf P w K mg base N qual (defScope st) g cdv A outer s H E F T px).A (cyOf P w K mg base N qual (defScope st) g cdv A outer s H E F T px).env (cyOf P w K mg base N qual (defScope st) g cdv A outer s H E F T px).xe →
      WB (cyOf P w K mg base N qual (defScope st) g cdv A outer s H E F T px) pre (startD N (.adr a :: ds)) G { nx := fun r G' => r[0]? = some (Sl.sh (.adr a)) ∧ ∃ d0 d1, r[i0]? = some (Sl.sh d0) ∧ r[i1]? = some (Sl.sh d1) ∧ post [d1, d0] G', rt := fun _ _ => False }) :
    FnOk P w K mg base (L2.CX P w) (k + 1) g fd ps (spI K C f) := by
  refine Fo.okX S (fun vs H Q E h => ?_) (fun cdv A outer s H vs Q E hr h => ?_)
  · obtain ⟨a, dx, us, F, G, ds, post, px, rfl, _, _, _, _, _, _, _, _, _, _, rp, hf, _⟩ := h
    rw [List.length_cons, rp.length]; exact len ds G post px hf
  · obtain ⟨a, dx, us, F, G, ds, post, px, rfl, hx, hd, hne, fx, fdx, gx, gdx, e1, e2, e3, rp, hf, hq, hxn⟩ := h
    refine ⟨RunB _ (defBody st), pbR, ?_⟩
    obtain ⟨p0, p1, hW⟩ := hbody cdv A outer s H E F (Tof G H) hr px
    have hl : (D.adr a :: ds).length ≤ N.length := by
      rw [List.length_cons, len ds G post px hf]
      have := congrArg List.length S.pre
      rw [List.length_take] at this
      omega
    rw [hb]
    have S0 := sta_start (N := N) (ds := .adr a :: ds) (vs := .ref a :: us) hl e1 e2 e3 ⟨_, _, rfl, rfl, rp⟩
    have tk : (cyOf P w K mg base N qual (defScope st) g cdv A outer s H E F (Tof G H) px).Tk := (takes_of (E := E) rfl rfl rfl rfl).imp fun cls d σ H' ⟨r, G', F', x, S', ex, q⟩ => hxn x cls d G' H' F' q S'.bas.tin ex
    have go := hW a ds G post hf tk (passes_of rfl) F (Tof G H) F H (L2.start N (.ref a :: us)) ⟨Ex.refl _, Ex.refl _, fun _ _ z => .inl z⟩ S0
    refine runB_then (X := cyOf P w K mg base N qual (defScope st) g cdv A outer s H E F (Tof G H) px) (go.mono (fun σ' H' ⟨r', G', F', S', h0, d0, d1, h1, h2, hy⟩ => ?_) (fun v H' ⟨x, G', F', B, rt, q⟩ => q.elim) (fun _ _ ⟨_, _, _, _, q⟩ => q) (fun _ _ ⟨_, _, _, _, q⟩ => q))
    obtain ⟨va, a1, a2⟩ := S'.sl 0 _ h0
    obtain ⟨v0, b1, b2⟩ := S'.sl i0 _ h1
    obtain ⟨v1, c1, c2⟩ := S'.sl i1 _ h2
    cases (show va = .ref a from a2)
    have tx : H' a = some (.ins C dx []) := S'.bas.tk a _ (by rw [Tof_none gx]; exact hx)
    have hs0 : SlX.Slt H' a C dx [] := .inl ⟨tx, rfl⟩
    have two : SlX.putS 0 v1 (SlX.putS 1 v0 []) = [some v1, some v0] := rfl
    refine RunB.of (pss_cons p0 (pss_cons p1 pss_nil)) ⟨v0, b1, .ref a, a1, a, C, dx, q0, [], 1, rfl, hs0, c, t0, v1, c1, .ref a, a1, a, C, dx, q1, _, 0, rfl, SlX.slH_slt hne, c, t1, ?_⟩
    rw [SlX.slH_twice hne, two]
    obtain ⟨F2, f1, f2, f3⟩ := init_frame (vs := [some v1, some v0]) S'.bas fx fdx gx gdx hx hd hne rfl
    exact hq _ G' _ F2 hy f2 ⟨a, dx, [v1, v0], rfl, f3, v1, [v0], rfl, Rep.mono f1 _ _ c2, .one (Rep.mono f1 _ _ b2)⟩
/-- .. one slot, stored at the end -/
theorem init1_ok {x qual : Str} {st : Stmt} {g : Addr} {fd : FuncData} {N ps : List Str} {k : Nat} {C q0 : Addr} {f0 : Str} {f : FSpI} (Fo : Fun K x qual st g fd) (S : FnScope N ps (defScope st)) (c : SlX.SCls K C) (t0 : SlX.Slot1 K C f0 q0 0)
    (len : ∀ ds G post px, f ds G post px → ds.length + 1 = ps.length)
    (pre : List Stmt) (s0 : Stmt) (e0 : Expr) (hb : defBody st = pre ++ [s0])
    (hbody : ∀ (cdv : Value) (A : Around) (outer : List Env) (s : Shared) (H : Hp) (E : XK) (F T : Hp), Room k (A.deeper (envOfC qual (defScope st) s.heap.objs.size g cdv)) → ∀ (px : Exn → GD → Prop),
      PS (cyOf P w K mg base N qual (defScope st) g cdv A outer s H E F T px).toCx s0 (SlX.sSl K (tVar 0) (Run (cyOf P w K mg base N qual (defScope st) g cdv A outer s H E F T px).toCx e0) f0) ∧
      ∀ (a : Addr) (ds : List D) (G : GD) (post : List D → GD → Prop), f ds G post px → (cyOf P w K mg base N qual (defScope st) g cdv A outer s H E F T px).Tk → PassesOwn (model P w) (cyOf P w K mg base N qual (defScope st) g cdv A outer s H E F T px).A (cyOf P w K mg base N qual (defScope st) g cdv A outer s H E F T px).env (cyOf P w K mg base N qual (defScope st) g cdv A outer s H E F T px).xe →
      WB (cyOf P w K mg base N qual (defScope st) g cdv A outer s H E F T px) pre (startD N (.adr a :: ds)) G { nx := fun r G' => WE (cyOf P w K mg base N qual (defScope st) g cdv A outer s H E F T px) e0 r G' fun y r1 G1 => ∃ d r2, fz r1 y = some (d, r2) ∧ r2[0]? = some (Sl.sh (.adr a)) ∧ post [d] G1, rt := fun _ _ => False }) :
    FnOk P w K mg base (L2.CX P w) (k + 1) g fd ps (spI K C f) := by
  refine Fo.okX S (fun vs H Q E h => ?_) (fun cdv A outer s H vs Q E hr h => ?_)
  · obtain ⟨a, dx, us, F, G, ds, post, px, rfl, _, _, _, _, _, _, _, _, _, _, rp, hf, _⟩ := h
    rw [List.length_cons, rp.length]; exact len ds G post px hf
  · obtain ⟨a, dx, us, F, G, ds, post, px, rfl, hx, hd, hne, fx, fdx, gx, gdx, e1, e2, e3, rp, hf, hq, hxn⟩ := h
    refine ⟨RunB _ (defBody st), pbR, ?_⟩
    obtain ⟨p0, hW⟩ := hbody cdv A outer s H E F (Tof G H) hr px
    have hl : (D.adr a :: ds).length ≤ N.length := by
      rw [List.length_cons, len ds G post px hf]
      have := congrArg List.length S.pre
      rw [List.length_take] at this
      omega
    rw [hb]
    have S0 := sta_start (N := N) (ds := .adr a :: ds) (vs := .ref a :: us) hl e1 e2 e3 ⟨_, _, rfl, rfl, rp⟩
    have tk : (cyOf P w K mg base N qual (defScope st) g cdv A outer s H E F (Tof G H) px).Tk := (takes_of (E := E) rfl rfl rfl rfl).imp fun cls d σ H' ⟨r, G', F', x, S', ex, q⟩ => hxn x cls d G' H' F' q S'.bas.tin ex
    have lk : Lk (cyOf P w K mg base N qual (defScope st) g cdv A outer s H E F (Tof G H) px) F (Tof G H) := ⟨Ex.refl _, Ex.refl _, fun _ _ z => .inl z⟩
    have go := hW a ds G post hf tk (passes_of rfl) F (Tof G H) F H (L2.start N (.ref a :: us)) lk S0
    refine runB_then (X := cyOf P w K mg base N qual (defScope st) g cdv A outer s H E F (Tof G H) px) (go.mono (fun σ' H' ⟨r', G', F', S', hw⟩ => ?_) (fun v H' ⟨x, G', F', B, rt, q⟩ => q.elim) (fun _ _ ⟨_, _, _, _, q⟩ => q) (fun _ _ ⟨_, _, _, _, q⟩ => q))
    refine RunB.of (pss_cons p0 pss_nil) ((hw F (Tof G H) F' H' σ' lk S').mono fun v0 H1 ⟨y, r1, G1, F1, e4, S1, k1, d, r2, q1, q2, q3⟩ => ?_)
    obtain ⟨F3, e5, S3, rp3⟩ := S1.fz k1 q1
    obtain ⟨va, a1, a2⟩ := S3.sl 0 _ q2
    cases (show va = .ref a from a2)
    have tx : H1 a = some (.ins C dx []) := S3.bas.tk a _ (by rw [Tof_none gx]; exact hx)
    have hs0 : SlX.Slt H1 a C dx [] := .inl ⟨tx, rfl⟩
    have one : SlX.putS 0 v0 [] = [some v0] := rfl
    refine ⟨.ref a, a1, a, C, dx, q0, [], 0, rfl, hs0, c, t0, ?_⟩
    rw [one]
    obtain ⟨F2, f1, f2, f3⟩ := init_frame (vs := [some v0]) S3.bas fx fdx gx gdx hx hd hne rfl
    exact hq _ G1 _ F2 q3 f2 ⟨a, dx, [v0], rfl, f3, .one (Rep.mono f1 _ _ rp3)⟩
end
/-- the promise of a class's making by a mirror -/
def FMI (cx : Nat → Addr) {A R : Type} (en : A → List D) (es : R → List D) (f : A → Out R) : FSpI := fun ds G post px => ∃ a : A, ds = en a ∧ (f a).sat (fun v => post (es v) G) (fun m => px (xnOf cx m) G)
/-! ### a class of the module, by the fragment's facts -/
theorem kit_same {K : PySem.W.Frag} {t : Value} (h : (t == t) = true) : PySem.W.kitOne K t t = some true := if_pos h
theorem kit_ref {K : PySem.W.Frag} {t : Value} {C : Addr} {b : Bool} (hne : (t == .ref C) = false) (hc : PySem.W.isClsIn K C = true) (ht : PySem.W.typeIn K (.ref C) = some (.type "type")) (hs : PySem.W.subIn K t (.ref C) = some b) : PySem.W.kitOne K t (.ref C) = some b := by
  unfold PySem.W.kitOne
  rw [if_neg (by rw [hne]; exact Bool.false_ne_true)]
  unfold PySem.W.kitCls
  dsimp only
  rw [if_pos, hs]
  rw [ht]
  unfold PySem.W.isClsIn at hc
  rw [hc]
  rfl

open Out (Rt)
/-! ### x[i], x an instance with an own __getitem__ -/
structure ItemD (P : Program) (w : World) (K : PySem.W.Frag) (mg : Str → Option Value) (base : Heap) (C : Addr) (k : Nat) (ps : List Str) (sp : FSp) : Prop where
  ex : ∃ (g : Addr) (fd : FuncData), PySem.W.findIn K (.ref C) "__getitem__" = some (some (.ref g)) ∧ PySem.W.isFn K (.ref g) = true ∧ PySem.W.fnIn K g = true ∧ FnOk P w K mg base (CX P w) k g fd ps (spD K sp) ∧ Binds K fd ps []
def NoSlP (b : Expr) : Prop := ∀ o i, subscripted b true o i = runValue (.builtin "lifetime.subscript" ⟨[o, i], []⟩)
section
variable {X : Cy} {e a b c o tg kx vx elt i : Expr} {es ifs : List Expr} {st : Stmt} {sts rest body orelse : List Stmt} {r : Env2} {G : GD} {pos tpos apos cpos p0 : Pos} {D0 : EndsD} {α β γ σT ρ : Type}
def rIxOwn (C : Addr) (sp : Sp) (E : XK) : R2 := fun x y H Q => ∃ a dx vs, x = .ref a ∧ SlX.Slt H a C dx vs ∧ sp [x, y] H Q E
theorem pe_subOwn {X : Cx} {ta tb : TE} {C g : Addr} {CX : CXT} {n : Nat} {sp : Sp} {E : XK} (ha : PE X a ta) (hb : PE X b tb) (hs : PySem.W.findIn X.K (.ref C) "__getitem__" = some (some (.ref g))) (hf : PySem.W.isFn X.K (.ref g) = true) (hfn : PySem.W.fnIn X.K g = true) (F : FnR X.prog X.w X.K X.mg X.base CX n g sp) (hr : Room (n + 1) X.A) (hx : Passes CX X E) (hsl : NoSlP b) :
    PE X (.Subscript a b pos) (tOp (rIxOwn C sp E) ta tb) := by
  refine ⟨fun pins s σ H Q I h => ?_⟩
  refine Subscript_ (binT ha hb I h fun v u s2 x y H2 I2 rx ry q => ?_)
  obtain ⟨ad, dx, vs, rfl, hsl2, q⟩ := q
  cases (show v = Value.ref ad from rx)
  obtain ⟨sl, od, _, J, _⟩ := SlX.slt_inst I2 hsl2
  obtain ⟨m, hF⟩ := I2.fr
  refine PySem.W.sub_K hF I2.ok.mod.kin J hs hfn hf (wpAny_call (SlX.run_at (us := [.ref ad, u]) (ws := [.ref ad, y]) F hr.in1 I2.env0.in1 hx I2 (.cons rfl (.cons ry .nil)) q)) (hsl _ _)
theorem we_item {C : Addr} {k j : Nat} {ps : List Str} {sp : FSp} {Q : Res → Env2 → GD → Prop} (M : ItemD X.prog X.w X.K X.mg X.base C k ps sp) (hr : Room j X.A)
    (h : WE X a r G fun x r1 G1 => WE X b r1 G1 fun y r2 G2 => ∃ ds d r3, vw r2 x = some (.ins C ds) ∧ fz r2 y = some (d, r3) ∧ sp [.ins C ds, d] G2 (fun z G3 => Q z r3 G3) (fun _ _ => False)) (hj : k + 1 ≤ j := by omega) (hsl : NoSlP b := by intro _ _; rfl) : WE X (.Subscript a b pos) r G Q := fun F0 T F H σ lk S => by
  obtain ⟨g, fd, h1, h2, h3, h4, h5⟩ := M.ex
  refine Run.of (pe_subOwn (E := fun _ _ _ => False) peR peR h1 h2 h3 (fnr h4 h5) (hr.mono hj) passF hsl) ?_
  refine (h F0 T F H σ lk S).mono fun va H1 ⟨x, r1, G1, F1, e1, S1, k1, h1⟩ => ?_
  obtain ⟨F1', e1', S1', hv⟩ := hold S1 k1
  refine (h1 F0 T F1' H1 σ lk S1').mono fun vb H2 ⟨y, r2, G2, F2, e2, S2, k2, ds, d, r3, q1, q2, q3⟩ => ?_
  have vx := hv F2 G2 H2 r2 _ e2 S2 (.inl q1)
  obtain ⟨F3, e3, S3, rp⟩ := S2.fz k2 q2
  have ra := Rep.mono e3 _ _ vx.rep_ins
  obtain ⟨ad, dx, vs, rfl, z1, z2⟩ := vx.ins S2.bas.fh
  exact ⟨ad, dx, vs.map some, rfl, z1, spD_of0 (ds := [.ins C ds, d]) S3 (((e1.trans e1').trans e2).trans e3) ⟨_, _, rfl, ra, .one rp⟩ q3⟩
end
/-! ### the program's own classes -/
structure Rul where
  error : Int
  marks : List Int
deriving DecidableEq, Inhabited
abbrev eRul (C : Addr) : Rul → D := fun r => .ins C [.int r.error, .tup (r.marks.map D.int)]
structure Rak where
  held : List (S × Rul)
deriving DecidableEq
abbrev eRak (CK CR : Addr) : Rak → D := fun r => .ins CK [eD kZ (eRul CR) r.held]
structure Cl_Ruler (K : PySem.W.Frag) (C : Addr) : Prop where
  cls : SlX.SCls K C
  isi : SlX.SIsi K C
  s0 : ∃ p, SlX.Slot1 K C "own_error" p 0
  s1 : ∃ p, SlX.Slot1 K C "own_marks" p 1
  same : PySem.W.kitOne K (.ref C) (.ref C) = some true
  nf : PySem.W.notFirst K C (.ref C) = true
structure Cl_Rack (K : PySem.W.Frag) (C : Addr) : Prop where
  cls : SlX.SCls K C
  isi : SlX.SIsi K C
  s0 : ∃ p, SlX.Slot1 K C "held" p 0
  same : PySem.W.kitOne K (.ref C) (.ref C) = some true
  nf : PySem.W.notFirst K C (.ref C) = true

/-! ### tuple(d): its keys -/
namespace RBT
open PySem PySem.Calls PyProof.Rows PyProof.V PySem.Spec PySem.W
section
variable {prog : Program} {w : World} {A : Around} {E : Value → Shared → Prop} {s : Shared} {T : String} {r d : Addr} {n : Nat} {P : Nat → Value → Prop} {OK : Heap → Prop}
theorem code_tuple_new_kdl {Q₁ : Value → Shared → Prop} (K : KdlSrc prog w T r d n P OK) (hh : A.handled = none) (hok : OK s.heap) (hn : n ≤ sizeLine)
    (h : ∀ (h' : Heap) (tk : Nat) (acc : Array Value), (∀ b o, s.heap.get? b = some o → h'.get? b = some o) → ItemsOf P acc n →
      Q₁ (.ref h'.objs.size) { s with heap := h'.push { cls := .type "tuple", data := .seq acc }, toks := tk }) :
    codeAny (model prog w) A (.call (.builtin "tuple.__new__") ⟨[.type "tuple", .ref r], []⟩) (wants Q₁ E) s := by
  refine codeAny_of_tree ?_
  show wpAny _ A.in1 (do checkBuiltinCall "tuple.__new__" ⟨[.type "tuple", .ref r], []⟩; again (.builtin "tuple.__new__" ⟨[.type "tuple", .ref r], []⟩)) _ _ s
  refine wpAny_bind (wpAny_of_eq (F.newCall_tuple_1 _) (wpAny_pure ⟨plainId_quiet F.plain_tuple_new _, codeAny_builtin F.entry_tuple_new ?_⟩))
  rw [Around.under_plainId F.plain_tuple_new _]
  have hsub := sub_tuple_self
  have hinit := init_tuple_lookup
  have hmh := madeHere_tuple
  have hTI : s.TypeIs (.ref r) T := K.type s hok
  have hh1 : A.in1.handled = none := hh
  have hnt := K.notTuple
  wp_walk using wpAny_typeOf hTI, kdu_collect (A := A.in1) K hh1 hok hn
  intro h' tk acc hk hacc
  show wpAny _ _ (Builtin.Tuple.tupleExact acc.toList.toArray >>= fun v => ret v) _ _ _
  unfold Builtin.Tuple.tupleExact
  refine wpAny_bind (wpAny_newObj_type ?_ (by show acc.toList.toArray.size ≤ sizeLine; simp only [Array.toArray_toList]; rw [hacc.1]; exact hn))
  refine wpAny_pure ?_
  have e : acc.toList.toArray = acc := by simp
  rw [e]
  exact h h' tk acc hk hacc
theorem call_tuple_kdl {Q : Value → Shared → Prop} (K : KdlSrc prog w T r d n P OK) (hh : A.handled = none) (hok : OK s.heap) (hn : n ≤ sizeLine)
    (hQ : ∀ (h' : Heap) (tk : Nat) (acc : Array Value), (∀ b o, s.heap.get? b = some o → h'.get? b = some o) → ItemsOf P acc n →
      Q (.ref h'.objs.size) { s with heap := h'.push { cls := .type "tuple", data := .seq acc }, toks := tk }) :
    wpAny (model prog w) A (call (.type "tuple") [.ref r]) Q E s := by
  refine callType_codes (Q₁ := fun obj s₁ => s₁.TypeIs obj "tuple" ∧ Q obj s₁) F.called_tuple (F.typeCall_tuple_1 _) F.entry_object_init
    (code_tuple_new_kdl (A := A.in1) K hh hok hn fun h' tk acc hk hacc => ⟨⟨_, Heap.get?_push_size _ rfl, rfl⟩, hQ h' tk acc hk hacc⟩) fun obj s₁ h₁ => ?_
  exact ⟨h₁.1, F.args_object_init_2 obj _, object_init_meets F.called_tuple.init.lookup F.called_tuple.made (by decide) prog w A.in1 _ s₁ ⟨h₁.1, rfl, h₁.2⟩⟩
end
end RBT
open Out (Rt)
theorem call_tupleD {X : Cx} (hcalm : X.calm = true) : CallR X (.type "tuple") (fun xs H Q => ∃ (a : Addr) (kvs : List (Key × V)), xs = [.ref a] ∧ Rd H a (.dK kvs) ∧ ∀ p, H p = none → Q (.ref p) (upd H p (.tup (kvs.map fun kv => kV kv.1)))) := by
  intro pins s σ H xs us Q I r q
  obtain ⟨a, kvs, ex, hd, q⟩ := q
  subst ex
  obtain ⟨u, eu, rx⟩ := vals1 r
  subst eu
  cases rx
  obtain ⟨z, lo, vs, rel, dd⟩ := dk_rd I.hok hd
  obtain ⟨ep, hat⟩ := dd.dictAt
  have ek : (kvs.map fun kv => kV kv.1) = vs.map fun p => kV p.1 := by
    have e := congrArg (List.map kV) rel.keys
    rw [List.map_map, List.map_map] at e
    exact e
  refine RBT.call_tuple_kdl (PySem.W.kdl_dict (knd := mixKind X.prog X.w) (kvs := vs) (ep := ep) lo) (I.ok.hd hcalm) hat (by rw [← rel.length]; exact z) fun h' tk acc hk hacc => ?_
  have hv : Vals (vs.map fun p => kV p.1) acc.toList := keys_at (by rw [Array.length_toList]; exact hacc.1) fun j v e => hacc.2 j v (by rw [← Array.getElem?_toList]; exact e)
  have I1 : Inv X pins σ H { s with heap := h', toks := tk } := I.kept hk
  have I2 : Inv X pins σ (upd H h'.objs.size (.tup (kvs.map fun kv => kV kv.1))) { s with heap := h'.push { cls := .type "tuple", data := .seq acc }, toks := tk } :=
    I1.laid (t' := tk) (fun b o e => Heap.get?_push_of_some _ e) (Nat.le_refl _) (show ObjOk X.prog X.w _ _ _ (.tup (kvs.map fun kv => kV kv.1)) from ⟨by rw [List.length_map]; exact z, acc.toList, by rw [ek]; exact hv, by rw [Array.toArray_toList]; exact IsTup.new _ _⟩)
  exact ⟨.ref h'.objs.size, _, I2, rfl, q _ (I1.hok.fresh (Nat.le_refl _))⟩
section
variable {X : Cy} {e a b c o tg kx vx elt i : Expr} {es ifs : List Expr} {st : Stmt} {sts rest body orelse : List Stmt} {r : Env2} {G : GD} {pos tpos apos cpos p0 : Pos} {D0 : EndsD} {α β γ σT ρ : Type}
theorem keys_rep {K : PySem.W.Frag} {F : Hp} : ∀ (ks : List Key), RepL K F (ks.map kD) (ks.map kV)
  | [] => rfl
  | k :: ks => ⟨kV k, ks.map kV, rfl, kD_rep k, keys_rep ks⟩
theorem t_tupleD {κ ν : Type} {k : κ → Key} {f : ν → D} (kvs : List (κ × ν)) (hcalm : X.calm = true) {Q : Res → Prop} (q : Q (.sh (.tup ((kvs.map (·.1)).map fun x => kD (k x))))) : CallW1 X (.type "tuple") (eD k f kvs) Q := fun F0 T F G H r σ v S hv => by
  obtain ⟨p, us, rfl, h1, h2⟩ := hv.dics S.bas.fh
  refine ⟨_, call_tupleD hcalm, p, us, rfl, h1, fun l hl => ?_⟩
  have ek : us.map (fun kv => kV kv.1) = ((kvs.map fun p => k p.1).map kV) := by
    have := h2.keys
    rw [zip_eDl] at this
    have e := congrArg (List.map kV) this
    rw [List.map_map] at e
    rw [show us.map (fun kv => kV kv.1) = List.map (kV ∘ fun x => x.fst) us from rfl, e]
    unfold eDl; rw [List.map_map, List.map_map, List.map_map]; rfl
  rw [ek]
  refine new_tup S ?_ hl q
  rw [show ((kvs.map (·.1)).map fun x => kD (k x)) = (kvs.map fun p => k p.1).map kD by rw [List.map_map, List.map_map]; rfl]
  exact keys_rep _
theorem t_listD {κ ν : Type} {k : κ → Key} {f : ν → D} (kvs : List (κ × ν)) (hcalm : X.calm = true) {Q : Res → Prop} (q : Q (.fr (.lst ((kvs.map (·.1)).map fun x => kD (k x))))) : CallW1 X (.type "list") (eD k f kvs) Q := fun F0 T F G H r σ v S hv => by
  obtain ⟨p, us, rfl, h1, h2⟩ := hv.dics S.bas.fh
  refine ⟨_, call_listD hcalm, p, us, rfl, h1, fun l hl => ?_⟩
  have ek : us.map (fun kv => kV kv.1) = ((kvs.map fun p => k p.1).map kV) := by
    have := h2.keys
    rw [zip_eDl] at this
    have e := congrArg (List.map kV) this
    rw [List.map_map] at e
    rw [show us.map (fun kv => kV kv.1) = List.map (kV ∘ fun x => x.fst) us from rfl, e]
    unfold eDl; rw [List.map_map, List.map_map, List.map_map]; rfl
  rw [ek]
  refine new_lst S ?_ hl q
  rw [show ((kvs.map (·.1)).map fun x => kD (k x)) = (kvs.map fun p => k p.1).map kD by rw [List.map_map, List.map_map]; rfl]
  exact keys_rep _
/-! ### texts -/
/-- sorted texts -/
def leS (a b : S) : Bool := decide (a.1.cps.toList ≤ b.1.cps.toList)
def ssort (xs : List S) : List S := xs.mergeSort leS
theorem t_lenS {x : S} (hl : x.1.length ≤ LIM) {Q : Res → Prop} (q : Q (.sh (.int (x.1.length : Nat)))) : CallW1 X (.builtin "len") (eZ x) Q :=
  c1_flat (d' := .int (x.1.length : Nat)) (v' := .int (x.1.length : Nat)) (fun _ _ => rfl) (fun F H v ex h => by
    have e : v = .str x.1 := by
      rcases h with z | ⟨_, _, z⟩
      · exact z
      · exact z.elim
    subst e
    exact ⟨_, call_len_str, fun P hp => ⟨_, rfl, lim_ok hl, hp⟩⟩) q
/-- the signs of a text -/
abbrev Chr := { c : Nat // c < 0x110000 }
abbrev eC : Chr → D := fun c => .str ⟨#[c.1]⟩
theorem eqc_chr : EqC eC 0 := ⟨fun c => by
    show PyData.strOk ⟨#[c.1]⟩ = true
    unfold PyData.strOk
    simp [c.2], fun a b => by
    show PyData.eqv (.str ⟨#[a.1]⟩) (.str ⟨#[b.1]⟩) = true ↔ a = b
    simp [PyData.eqv, Subtype.ext_iff]⟩
def chrs (x : S) : List Chr := x.1.cps.toList.attach.map fun c => ⟨c.1, by
  have h := x.2
  unfold PyData.strOk at h
  rw [Array.all_eq_true_iff_forall_mem] at h
  exact of_decide_eq_true (h c.1 (Array.mem_toList_iff.mp c.2))⟩
theorem chrs_val (x : S) : (chrs x).map (·.1) = x.1.cps.toList := by
  unfold chrs
  rw [List.map_map]
  exact List.attach_map_subtype_val _
theorem chrs_len (x : S) : (chrs x).length = x.1.cps.size := by
  have := congrArg List.length (chrs_val x)
  rwa [List.length_map, Array.length_toList] at this
theorem ti_str {Q : List D → Env2 → GD → Prop} (h : WE X e r G fun z r1 G1 => ∃ (x : S) (r2 : Env2), fz r1 z = some (eZ x, r2) ∧ Q ((chrs x).map eC) r2 G1) : WI X tg e r G Q := fun F0 T F H σ lk S =>
  RunI.of (pi_str peR) ((h F0 T F H σ lk S).mono fun v H1 ⟨z, r1, G1, F1, e1, S1, k1, x, r2, q1, q2⟩ => by
    obtain ⟨Fa, e2, Sa, rp⟩ := S1.fz k1 q1
    cases (show v = .str x.1 from rp)
    refine ⟨x.1, rfl, _, r2, G1, Fa, e1.trans e2, Sa, fun F H ea eh => ⟨?_, fun i d hi => ?_⟩, q2⟩
    · show x.1.cps.size ≤ ((chrs x).map eC).length
      rw [List.length_map, chrs_len]; exact Nat.le_refl _
    · rw [List.getElem?_map] at hi
      cases hc : (chrs x)[i]? with
      | none => rw [hc] at hi; cases hi
      | some c =>
        rw [hc] at hi; cases hi
        have hv : x.1.cps.toList[i]? = some c.1 := by rw [← chrs_val, List.getElem?_map, hc]; rfl
        rw [Array.getElem?_toList] at hv
        refine ⟨?_, fun y H' ⟨y1, c', y2, y3⟩ => .inl ⟨y1, ?_⟩⟩
        · show i < x.1.cps.size
          obtain ⟨h1, _⟩ := Array.getElem?_eq_some_iff.mp hv
          exact h1
        · rw [hv] at y2; cases y2
          exact y3)
theorem t_inS {c : Chr} {x : S} {Q : Res → Prop} (q : Q (.sh (.bl (decide (c ∈ chrs x))))) : OpW X (compareOp .In) (eC c) (eZ x) Q := by
  have e : decide (c ∈ chrs x) = decide (c.1 ∈ x.1.cps.toList) := by
    rw [← chrs_val]
    congr 1
    simp only [List.mem_map, eq_iff_iff]
    exact ⟨fun h => ⟨c, h, rfl⟩, fun ⟨c', h, hc⟩ => by cases Subtype.ext hc; exact h⟩
  rw [e] at q
  refine opw_flat (d := .bl (decide (c.1 ∈ x.1.cps.toList))) (v := .bl (decide (c.1 ∈ x.1.cps.toList))) (fun _ _ => rfl) (fun F H va vb ex h1 h3 => ?_) q
  have e1 : va = .str ⟨#[c.1]⟩ := by
    rcases h1 with z | ⟨_, _, z⟩
    · exact z
    · exact z.elim
  have e2 : vb = .str x.1 := by
    rcases h3 with z | ⟨_, _, z⟩
    · exact z
    · exact z.elim
  subst e1 e2
  exact ⟨_, op_in_sign, fun P p => ⟨c.1, x.1, rfl, rfl, p⟩⟩
theorem t_ninS {c : Chr} {x : S} {Q : Res → Prop} (q : Q (.sh (.bl (!decide (c ∈ chrs x))))) : OpW X (compareOp .NotIn) (eC c) (eZ x) Q := by
  have e : decide (c ∈ chrs x) = decide (c.1 ∈ x.1.cps.toList) := by
    rw [← chrs_val]
    congr 1
    simp only [List.mem_map, eq_iff_iff]
    exact ⟨fun h => ⟨c, h, rfl⟩, fun ⟨c', h, hc⟩ => by cases Subtype.ext hc; exact h⟩
  rw [e] at q
  refine opw_flat (d := .bl (!decide (c.1 ∈ x.1.cps.toList))) (v := .bl (!decide (c.1 ∈ x.1.cps.toList))) (fun _ _ => rfl) (fun F H va vb ex h1 h3 => ?_) q
  have e1 : va = .str ⟨#[c.1]⟩ := by
    rcases h1 with z | ⟨_, _, z⟩
    · exact z
    · exact z.elim
  have e2 : vb = .str x.1 := by
    rcases h3 with z | ⟨_, _, z⟩
    · exact z
    · exact z.elim
  subst e1 e2
  exact ⟨_, op_notIn_sign, fun P p => ⟨c.1, x.1, rfl, rfl, p⟩⟩
end

/-! ### sorted of pairs of a text and an int -/
namespace RBS
open PySem PyProof.Rows SrtO Srt
def ltL (a b : List Nat) : Bool := decide (a < b)
theorem ltL_irrefl (a : List Nat) : ¬ a < a := List.lt_irrefl a
theorem ltL_tri (a b : List Nat) (h1 : ¬ a < b) (h2 : ¬ b < a) : a = b := List.le_antisymm (List.not_lt.mp h2) (List.not_lt.mp h1)
theorem ltL_trans {a b c : List Nat} (h1 : a < b) (h2 : b < c) : a < c := List.lt_trans h1 h2
def lexS (p q : Str × Int) : Bool := if p.1 = q.1 then decide (p.2 < q.2) else decide (p.1.cps.toList < q.1.cps.toList)
theorem str_ext {x y : Str} (h : x.cps.toList = y.cps.toList) : x = y := by
  cases x; cases y
  congr
  exact Array.ext' h
theorem lexS_iff {p q : Str × Int} : lexS p q = true ↔ p.1.cps.toList < q.1.cps.toList ∨ (p.1 = q.1 ∧ p.2 < q.2) := by
  unfold lexS
  by_cases e : p.1 = q.1
  · rw [if_pos e, decide_eq_true_eq, e]
    exact ⟨fun h => .inr ⟨rfl, h⟩, fun h => h.elim (fun z => absurd z (List.lt_irrefl _)) fun z => z.2⟩
  · rw [if_neg e, decide_eq_true_eq]
    exact ⟨.inl, fun h => h.elim id fun z => absurd z.1 e⟩
theorem lexS_no {p q : Str × Int} : lexS p q = false ↔ q.1.cps.toList < p.1.cps.toList ∨ (p.1 = q.1 ∧ q.2 ≤ p.2) := by
  constructor
  · intro h
    have h' : ¬ (p.1.cps.toList < q.1.cps.toList ∨ (p.1 = q.1 ∧ p.2 < q.2)) := fun z => by rw [lexS_iff.mpr z] at h; cases h
    by_cases e : p.1 = q.1
    · exact .inr ⟨e, Int.not_lt.mp fun z => h' (.inr ⟨e, z⟩)⟩
    · refine .inl ?_
      by_cases z : q.1.cps.toList < p.1.cps.toList
      · exact z
      · exact absurd (str_ext (ltL_tri _ _ (fun y => h' (.inl y)) z)) e
  · intro h
    cases q' : lexS p q with
    | false => rfl
    | true =>
      rcases lexS_iff.mp q' with z | ⟨z1, z2⟩
      · rcases h with y | ⟨y1, y2⟩
        · exact absurd (List.lt_trans z y) (List.lt_irrefl _)
        · rw [y1] at z; exact absurd z (List.lt_irrefl _)
      · rcases h with y | ⟨y1, y2⟩
        · rw [z1] at y; exact absurd y (List.lt_irrefl _)
        · omega
theorem lexS_asym {p q : Str × Int} (h : lexS p q = true) : lexS q p = false := by
  rcases lexS_iff.mp h with z | ⟨z1, z2⟩
  · exact lexS_no.mpr (.inl z)
  · exact lexS_no.mpr (.inr ⟨z1.symm, by omega⟩)
theorem lexS_tr {x y z : Str × Int} (h1 : lexS y x = false) (h2 : lexS z y = false) : lexS z x = false := by
  rcases lexS_no.mp h1 with a | ⟨a1, a2⟩
  · rcases lexS_no.mp h2 with b | ⟨b1, b2⟩
    · exact lexS_no.mpr (.inl (List.lt_trans a b))
    · exact lexS_no.mpr (.inl (by rw [b1]; exact a))
  · rcases lexS_no.mp h2 with b | ⟨b1, b2⟩
    · exact lexS_no.mpr (.inl (by rw [← a1]; exact b))
    · exact lexS_no.mpr (.inr ⟨b1.trans a1, by omega⟩)
theorem lexS_anti {x y : Str × Int} (h1 : lexS y x = false) (h2 : lexS x y = false) : x = y := by
  rcases lexS_no.mp h1 with a | ⟨a1, a2⟩
  · rcases lexS_no.mp h2 with b | ⟨b1, b2⟩
    · exact absurd (List.lt_trans a b) (List.lt_irrefl _)
    · rw [b1] at a; exact absurd a (List.lt_irrefl _)
  · rcases lexS_no.mp h2 with b | ⟨b1, b2⟩
    · rw [a1] at b; exact absurd b (List.lt_irrefl _)
    · exact Prod.ext b1 (by omega)
theorem swo_lexS {α : Type} (k : α → Str × Int) : Swo fun v u => lexS (k v) (k u) := ⟨fun _ _ h => lexS_asym h, fun _ _ _ h1 h2 => lexS_tr h1 h2⟩
def IsPairS (h : Heap) (v : Value) (x : Str) (y : Int) : Prop := ∃ a o t u n, v = .ref a ∧ h.get? a = some o ∧ o.cls = .type "tuple" ∧ o.data = .seq #[.str x t, .int y u] n
theorem IsPairS.keeps {h h' : Heap} {v : Value} {x : Str} {y : Int} (p : IsPairS h v x y) (k : ∀ b o, h.get? b = some o → o.cls = .type "tuple" → h'.get? b = some o) : IsPairS h' v x y := by
  obtain ⟨a, o, t, u, n, e, ho, hc, hd⟩ := p
  exact ⟨a, o, t, u, n, e, k _ _ ho hc, hc, hd⟩
theorem firsts_of {h : Heap} : ∀ {vs : List Value}, (∀ v ∈ vs, ∃ x y, IsPairS h v x y) → ∃ fs : List Value, PySem.W.KatTups h vs fs ∧ fs.length = vs.length ∧ ∀ f ∈ fs, ∃ x t, f = Value.str x t
  | [], _ => ⟨[], PySem.W.KatTups.nil, rfl, fun _ hm => by simp at hm⟩
  | v :: vs, hp => by
    obtain ⟨fs, h1, h2, h3⟩ := firsts_of (vs := vs) fun v' hm => hp v' (List.mem_cons_of_mem _ hm)
    obtain ⟨x, y, a, o, t, u, n, e, ho, hc, hd⟩ := hp v (List.mem_cons_self ..)
    subst e
    refine ⟨.str x t :: fs, PySem.W.KatTups.cons ho hc hd rfl h1, by rw [List.length_cons, List.length_cons, h2], fun f hm => ?_⟩
    rcases List.mem_cons.mp hm with rfl | hm
    · exact ⟨x, t, rfl⟩
    · exact h3 f hm
section
variable {prog : Program} {w : World} {A : Around} {E : Value → Shared → Prop} {s : Shared}
theorem pair_cmp {vs : List Value} {k : Value → Str × Int} (hp : ∀ v ∈ vs, IsPairS s.heap v (k v).1 (k v).2) : Cmp prog w A s (tuples' true) (fun p => p.1 ∈ vs) (lt2 fun v u => lexS (k v) (k u)) := by
  intro p q hm hm'
  have h1 := hp _ hm
  have h2 := hp _ hm'
  show wpAny (model prog w) A (keyLt' (tuples' true) p.1 q.1) (fun r s' => s' = s ∧ r = lexS (k p.1) (k q.1)) (fun _ _ => False) s
  unfold lexS
  generalize (k p.1).1 = x at h1 ⊢
  generalize (k p.1).2 = y at h1 ⊢
  generalize (k q.1).1 = x' at h2 ⊢
  generalize (k q.1).2 = y' at h2 ⊢
  obtain ⟨a, o, t, u, n, e, ho, hc, hd⟩ := h1
  obtain ⟨a', o', t', u', n', e', ho', hc', hd'⟩ := h2
  rw [e, e']
  refine PySem.W.kat_lt ho hd ho' hd' ?_
  show PySem.W.KatLex prog w A true (decide (2 < 2)) _ [(.str x t, .str x' t'), (.int y u, .int y' u')] 0 s
  refine PySem.W.kat_cons (SeqAt.EqAt.str_str x t x' t' prog w _ _ ?_)
  refine PySem.W.kat_go (fun e1 => ?_) (fun e1 => ?_)
  · have ex : x = x' := by simpa using e1
    refine PySem.W.kat_yes (PySem.W.kat_cons (SeqAt.EqAt.int_int y u y' u' prog w _ _ ?_))
    refine PySem.W.kat_go (fun e2 => ?_) (fun e2 => ?_)
    · have ey : y = y' := by simpa using e2
      have e3 : (if x = x' then decide (y < y') else decide (x.cps.toList < x'.cps.toList)) = false := by
        rw [if_pos ex, ey]
        exact decide_eq_false (Int.lt_irrefl _)
      exact PySem.W.kat_yes (PySem.W.kat_nil ⟨rfl, e3.symm⟩)
    · have e3 : (if x = x' then decide (y < y') else decide (x.cps.toList < x'.cps.toList)) = decide (y < y') := if_pos ex
      refine PySem.W.kat_no (PySem.W.kat_one _ _ (PyProof.Rows.lt_int ?_))
      exact (show s = s ∧ decide (y < y') = (if x = x' then decide (y < y') else decide (x.cps.toList < x'.cps.toList)) from ⟨rfl, e3.symm⟩)
  · have ex : ¬ x = x' := by simpa using e1
    have e3 : (if x = x' then decide (y < y') else decide (x.cps.toList < x'.cps.toList)) = decide (x.cps.toList < x'.cps.toList) := if_neg ex
    exact PySem.W.kat_no (oneLt_str ⟨rfl, e3.symm⟩)
theorem pairs_sortableS {a : Addr} {vs : List Value} {k : Value → Str × Int} (h0 : 0 < vs.length) (hp : ∀ v ∈ vs, IsPairS s.heap v (k v).1 (k v).2) (ha : ∀ o, s.heap.get? a = some o → o.cls ≠ .type "tuple") : SortableO prog w A s a vs fun v u => lexS (k v) (k u) := by
  intro h' keep
  have hp' : ∀ v ∈ vs, IsPairS h' v (k v).1 (k v).2 := fun v hm => (hp v hm).keeps fun b o e c => keep b o (fun z => by subst z; exact ha o e c) e
  obtain ⟨fs, h1, h2, h3⟩ := firsts_of fun v hm => ⟨_, _, hp' v hm⟩
  refine ⟨tuples' true, fun Q E hq => ?_, pair_cmp hp'⟩
  refine PySem.W.kat_kind (T := .type "str") h1 (by omega) (fun f hm => ?_) (by rfl) ?_
  · obtain ⟨x, t, rfl⟩ := h3 f hm
    exact PySem.W.Looks.now
  · have e : (Value.type "str" != Value.type "tuple") = true := by first | decide +kernel | rfl | decide
    rw [e]
    exact hq
theorem sorted_pairsS {l : Addr} {vs : List Value} {k : Value → Str × Int} {Q : Value → Shared → Prop} (hl : s.heap.IsList l vs.toArray) (hz : vs.length ≤ sizeLine) (hp : ∀ v ∈ vs, IsPairS s.heap v (k v).1 (k v).2)
    (h : ∀ (h' : Heap) (d : Addr) (out : List Value), Srtd (fun v u => lexS (k v) (k u)) out → Stb (fun v u => lexS (k v) (k u)) out vs → (∀ b o, s.heap.get? b = some o → h'.get? b = some o) → s.heap.objs.size ≤ d → (∃ n, h'.get? d = some (seqObj "list" out.toArray n)) → Q (.ref d) { s with heap := h' }) :
    wpAny (model prog w) A (call (.builtin "sorted") [.ref l]) Q E s := by
  refine sorted_ord (swo_lexS k) hl hz (fun h2 h₁ a ha kk => ?_) fun out hs hb => ?_
  · refine pairs_sortableS (s := { s with heap := h₁ }) (by omega) (fun v hm => (hp v hm).keeps fun b o e _ => (kk b o e).2) fun o e => ?_
    have e' : some o = some (seqObj "list" vs.toArray 0) := e.symm.trans ha
    cases e'
    intro c
    exact absurd (Value.type.inj c) (by decide)
  · exact h _ _ out hs hb (fun b o e => sortedAll_old e) (Nat.le_succ _) (sortedAll_at s.heap vs out.toArray)
end
end RBS
open Out (Rt)
theorem paired_mem {α β : Type} {R : α → β → Prop} : ∀ {xs : List α} {ys : List β}, Paired R xs ys → ∀ x ∈ xs, ∃ y ∈ ys, R x y
  | _, _, .nil, x, hx => by simp at hx
  | _, _, .cons h t, x, hx => by
    rcases List.mem_cons.mp hx with z | z
    · subst z; exact ⟨_, List.mem_cons_self, h⟩
    · obtain ⟨y, hy, q⟩ := paired_mem t x z
      exact ⟨y, List.mem_cons_of_mem _ hy, q⟩
theorem paired_map {α β γ : Type} {R : α → β → Prop} {f : γ → α} {k : γ → β} : ∀ {us : List γ}, (∀ u ∈ us, R (f u) (k u)) → Paired R (us.map f) (us.map k)
  | [], _ => .nil
  | u :: us, h => .cons (h u List.mem_cons_self) (paired_map fun v hv => h v (List.mem_cons_of_mem _ hv))
/-- sorted(xs), xs a list of pairs (text, int) of any length -/
def rSortedPS (K : PySem.W.Frag) : List V → Hp → VK → Prop := fun vs H Q => ∃ (a : Addr) (xs : List V) (zs : List (Str × Int)) (P : V → Str × Int → Prop), vs = [V.ref a] ∧ SqL K H a xs ∧ Paired P xs zs ∧ (∀ x z, P x z → ∃ t, x = V.ref t ∧ SqT K H t [.str z.1, .int z.2]) ∧
  ∀ ys zs' p, Paired P ys zs' → zs'.Perm zs → zs'.Pairwise (fun a b => RBS.lexS b a = false) → H p = none → Q (.ref p) (upd H p (.lst ys))
theorem pairS_inj {h : Heap} {v : Value} {x x' : Str} {y y' : Int} (h1 : RBS.IsPairS h v x y) (h2 : RBS.IsPairS h v x' y') : (x, y) = (x', y') := by
  obtain ⟨a, o, t, u, n, e, ho, hc, hd⟩ := h1
  obtain ⟨a', o', t', u', n', e', ho', hc', hd'⟩ := h2
  subst e; cases e'
  rw [ho] at ho'; cases ho'
  rw [hd] at hd'
  cases hd'; rfl
open Classical in
theorem cr_sortedPS {X : Cx} : CallR X (.builtin "sorted") (rSortedPS X.K) := by
  intro pins s σ H vs us Q I r h
  obtain ⟨a, xs, zs, P, rfl, hs, hP, hx, q⟩ := h
  obtain ⟨its, rv, hl, hz⟩ := I.list hs
  obtain ⟨u, rfl, ru⟩ := vals1 r
  obtain rfl : u = Value.ref a := ru
  have hp1 : ∀ x z, P x z → ∀ v, RelV x v → RBS.IsPairS s.heap v z.1 z.2 := fun x z hxz v rx => by
    obtain ⟨t, rfl, ht⟩ := hx x z hxz
    cases (show v = Value.ref t from rx)
    obtain ⟨its2, r2, ⟨o, ho, hc, n, hd⟩, _⟩ := I.tuple ht
    obtain ⟨u1, u2, rfl, ri, rj⟩ := vals2 r2
    obtain ⟨t1, rfl⟩ := ri
    obtain ⟨t2, rfl⟩ := rj
    exact ⟨t, o, t1, t2, n, rfl, ho, hc, hd⟩
  obtain ⟨e1, e2⟩ := refs_back rv fun x m => by
    obtain ⟨z, _, hz⟩ := paired_mem hP x m
    obtain ⟨t, e, _⟩ := hx x z hz
    exact ⟨t, e⟩
  let k : Value → Str × Int := fun u => if hh : ∃ z : Str × Int, RBS.IsPairS s.heap u z.1 z.2 then hh.choose else (⟨#[]⟩, 0)
  have hk : ∀ u z, RBS.IsPairS s.heap u z.1 z.2 → k u = z := fun u z hu => by
    have hh : ∃ z : Str × Int, RBS.IsPairS s.heap u z.1 z.2 := ⟨z, hu⟩
    show (if hh : ∃ z : Str × Int, RBS.IsPairS s.heap u z.1 z.2 then hh.choose else (⟨#[]⟩, 0)) = z
    rw [dif_pos hh]
    exact pairS_inj hh.choose_spec hu
  have rel : ∀ u ∈ its, RelV (backV u) u := fun u hu => by
    obtain ⟨t, rfl⟩ := e2 u hu
    exact rfl
  have hzs : ∀ (us : List Value) (zs : List (Str × Int)), (∀ u ∈ us, RelV (backV u) u) → Paired P (us.map backV) zs → zs = us.map k ∧ ∀ u ∈ us, P (backV u) (k u) := by
    intro us
    induction us with
    | nil => intro zs _ h; cases h; exact ⟨rfl, fun _ hu => by simp at hu⟩
    | cons u us ih =>
      intro zs hr h
      cases h with
      | cons h1 h2 =>
        obtain ⟨g1, g2⟩ := ih _ (fun v hv => hr v (List.mem_cons_of_mem _ hv)) h2
        have ek := hk u _ (hp1 _ _ h1 u (hr u List.mem_cons_self))
        subst g1
        rw [List.map_cons, ek]
        refine ⟨rfl, fun v hv => ?_⟩
        rcases List.mem_cons.mp hv with z | z
        · subst z; rw [ek]; exact h1
        · exact g2 v z
  rw [e1] at hP
  obtain ⟨g1, g2⟩ := hzs its zs rel hP
  refine RBS.sorted_pairsS (k := k) hl.isList (by rw [← rv.length]; exact hz) (fun v hv => hp1 _ _ (g2 v hv) v (rel v hv)) fun h' d out h1 h2 kp hd hn => ?_
  have hm : ∀ u ∈ out, u ∈ its := fun u hu => h2.perm.mem_iff.mp hu
  obtain ⟨n, hn⟩ := hn
  refine ⟨.ref d, upd H d (.lst (out.map backV)), I.laid (t' := s.toks) kp hd ⟨?_, out, n, vals_back fun u hu => e2 u (hm u hu), hn⟩, rfl, q _ (out.map k) d (paired_map fun u hu => g2 u (hm u hu)) ?_ ?_ (I.hok.fresh hd)⟩
  · rw [List.length_map, h2.perm.length_eq, ← rv.length]
    exact hz
  · rw [g1]; exact h2.perm.map k
  · exact List.pairwise_map.mpr h1
/-- the pairs of a mirror, sorted -/
def gP (a : S × Int) : Str × Int := (a.1.1, a.2)
def leP (a b : S × Int) : Bool := !RBS.lexS (gP b) (gP a)
def psort (xs : List (S × Int)) : List (S × Int) := xs.mergeSort leP
theorem leP_trans (a b c : S × Int) (h1 : leP a b = true) (h2 : leP b c = true) : leP a c = true := by
  unfold leP at *
  rw [Bool.not_eq_true'] at *
  exact RBS.lexS_tr h1 h2
theorem leP_total (a b : S × Int) : (leP a b || leP b a) = true := by
  unfold leP
  cases h : RBS.lexS (gP b) (gP a) with
  | false => rfl
  | true => rw [RBS.lexS_asym h]; rfl
theorem psort_perm (xs : List (S × Int)) : (psort xs).Perm xs := List.mergeSort_perm _ _
theorem psort_sorted (xs : List (S × Int)) : (psort xs).Pairwise fun a b => leP a b = true := List.pairwise_mergeSort leP_trans leP_total xs
theorem gP_inj {a b : S × Int} (e : gP a = gP b) : a = b := by
  obtain ⟨a1, a2⟩ := a
  obtain ⟨b1, b2⟩ := b
  have e1 : a1.1 = b1.1 := congrArg Prod.fst e
  have e2 : a2 = b2 := congrArg Prod.snd e
  rw [Subtype.ext e1, e2]
theorem leP_anti (a b : S × Int) (h1 : leP a b = true) (h2 : leP b a = true) : a = b := by
  unfold leP at *
  rw [Bool.not_eq_true'] at *
  exact gP_inj (RBS.lexS_anti h1 h2)
theorem psort_of {xs ys : List (S × Int)} (p : xs.Perm ys) (h : xs.Pairwise fun a b => leP a b = true) : xs = psort ys :=
  List.Perm.eq_of_pairwise (le := fun a b => leP a b = true) (fun a b _ _ h h' => leP_anti a b h h') h (psort_sorted ys) (p.trans (psort_perm ys).symm)
theorem repl_pair {K : PySem.W.Frag} {F : Hp} : ∀ {xs : List (S × Int)} {vs : List V}, RepL K F (xs.map (eP eZ eI)) vs → Paired (fun x z => ∃ s : S × Int, gP s = z ∧ Rep K F (eP eZ eI s) x) vs (xs.map gP)
  | [], _, h => by rw [show _ = [] from h]; exact .nil
  | x :: xs, _, ⟨v0, vs', e, h1, h2⟩ => by
    subst e
    exact .cons ⟨x, rfl, h1⟩ (repl_pair h2)
theorem pair_repl {K : PySem.W.Frag} {F : Hp} : ∀ {xs : List (S × Int)} {vs : List V}, Paired (fun x z => ∃ s : S × Int, gP s = z ∧ Rep K F (eP eZ eI s) x) vs (xs.map gP) → RepL K F (xs.map (eP eZ eI)) vs
  | [], _, .nil => rfl
  | x :: xs, _, .cons ⟨s, h1, h2⟩ t => by
    cases gP_inj h1
    exact ⟨_, _, rfl, h2, pair_repl t⟩
section
variable {X : Cy}
theorem t_sortedP (xs : List (S × Int)) {Q : Res → Prop} (q : Q (.fr (.lst ((psort xs).map (eP eZ eI))))) : CallW1 X (.builtin "sorted") (.lst (xs.map (eP eZ eI))) Q := fun F0 T F G H r σ v S hv => by
  obtain ⟨p, vs, rfl, h1, h2⟩ := hv.lst S.bas.fh
  refine ⟨_, cr_sortedPS, p, vs, xs.map gP, _, rfl, .inl h1, repl_pair h2, fun x z ⟨s, e, rp⟩ => ?_, fun ys zs' l hy hp hs hl => ?_⟩
  · obtain ⟨t, ws, rfl, k1, w1, ws1, e1, k2, w2, ws2, e2, k3, k4⟩ := rp
    subst e1 e2
    cases (show w1 = .str s.1.1 from k2)
    cases (show w2 = .int s.2 from k3)
    cases (show ws2 = [] from k4)
    subst e
    exact ⟨t, rfl, S.bas.fh.sqT k1⟩
  · have e : zs' = (psort xs).map gP := by
      refine List.Perm.eq_of_pairwise (le := fun a b => RBS.lexS b a = false) (fun a b _ _ h h' => RBS.lexS_anti h h') hs ?_ (hp.trans ((psort_perm xs).map gP).symm)
      exact List.pairwise_map.mpr ((psort_sorted xs).imp fun {a b} h => by
        unfold leP at h
        rw [Bool.not_eq_true'] at h
        exact h)
    subst e
    exact new_lst S (pair_repl hy) hl q
end

open Out (Rt)
/-! ### {k: v, ..} -/
section
variable {X : Cy} {e a b c o tg kx vx elt i : Expr} {es ifs : List Expr} {st : Stmt} {sts rest body orelse : List Stmt} {r : Env2} {G : GD} {pos tpos apos cpos p0 : Pos} {D0 : EndsD} {α β γ σT ρ : Type}
def WPr (X : Cy) : List Expr → List Expr → Env2 → GD → (List (Key × D) → Env2 → GD → Prop) → Prop
  | k :: ks, v :: vs, r, G, Q => WE X k r G fun x r1 G1 => ∃ key, x = .sh (kD key) ∧ WE X v r1 G1 fun y r2 G2 => ∃ d r3, fz r2 y = some (d, r3) ∧ WPr X ks vs r3 G2 fun ps r4 G4 => Q ((key, d) :: ps) r4 G4
  | _, _, r, G, Q => Q [] r G
def prs (X : Cy) : List Expr → List Expr → List (TE × TE)
  | k :: ks, v :: vs => (Run X k, Run X v) :: prs X ks vs
  | _, _ => []
theorem prs_ok : ∀ (ks vs : List Expr), ks.length = vs.length → PPs X.toCx pos (ks.map some) vs (prs X ks vs)
  | [], [], _ => pps_nil
  | k :: ks, v :: vs, h => pps_cons peR peR (prs_ok ks vs (by simpa using h))
  | [], _ :: _, h => by simp at h
  | _ :: _, [], h => by simp at h
theorem prs_mono {σ : L2.St} : ∀ (ks vs : List Expr) {H : Hp} {Q Q' : List (V × V) → Hp → Prop}, tPairs (prs X ks vs) σ H Q → (∀ ps H', Q ps H' → Q' ps H') → tPairs (prs X ks vs) σ H Q'
  | [], [], _, _, _, h, k => k _ _ h
  | [], _ :: _, _, _, _, h, k => k _ _ h
  | _ :: _, [], _, _, _, h, k => k _ _ h
  | a :: ks, b :: vs, H, Q, Q', h, k => Run.mono (show Run X a σ H _ from h) fun _ _ h1 => Run.mono (show Run X b σ _ _ from h1) fun _ _ h2 => prs_mono ks vs h2 fun ps H' q => k _ H' q
theorem wpr_run : ∀ (ks vs : List Expr) (r : Env2) (G : GD) (Q : List (Key × D) → Env2 → GD → Prop) (F0 T F H : Hp) (σ : L2.St), ks.length = vs.length → Lk X F0 T → Sta X.K F0 T F G H r σ → WPr X ks vs r G Q →
    tPairs (prs X ks vs) σ H (fun ps H' => ∃ kvs us r' G' F', ps = us.map (fun kv : Key × V => (kV kv.1, kv.2)) ∧ us.length = ks.length ∧ DRep X.K F' kvs us ∧ Ex F F' ∧ Sta X.K F0 T F' G' H' r' σ ∧ Q kvs r' G')
  | [], [], r, G, Q, F0, T, F, H, σ, _, lk, S, h => ⟨[], [], r, G, F, rfl, rfl, rfl, Ex.refl _, S, h⟩
  | k :: ks, v :: vs, r, G, Q, F0, T, F, H, σ, hl, lk, S, h => by
    refine (h F0 T F H σ lk S).mono fun va H1 ⟨x, r1, G1, F1, e1, S1, k1, key, hx, h1⟩ => ?_
    subst hx
    cases (rep_kD k1)
    refine (h1 F0 T F1 H1 σ lk S1).mono fun vb H2 ⟨y, r2, G2, F2, e2, S2, k2, d, r3, q1, q2⟩ => ?_
    obtain ⟨F3, e3, S3, rp⟩ := S2.fz k2 q1
    have ih := wpr_run ks vs r3 G2 _ F0 T F3 H2 σ (by simpa using hl) lk S3 q2
    refine prs_mono ks vs ih fun ps H' ⟨kvs, us, r', G', F', z1, z0, z2, z3, z4, z5⟩ => ?_
    exact ⟨(key, d) :: kvs, (key, vb) :: us, r', G', F', by rw [z1]; rfl, by rw [List.length_cons, List.length_cons, z0], ⟨_, us, rfl, rfl, Rep.mono z3 _ _ rp, z2⟩, ((e1.trans e2).trans e3).trans z3, z4, z5⟩
  | [], _ :: _, _, _, _, _, _, _, _, _, h, _, _, _ => by simp at h
  | _ :: _, [], _, _, _, _, _, _, _, _, h, _, _, _ => by simp at h
theorem we_disp {ks vs : List Expr} {Q : Res → Env2 → GD → Prop} (h : WPr X ks vs r G fun kvs r1 G1 => Q (.fr (dicD (kvs.foldl (fun acc kv => putD acc kv.1 kv.2) []))) r1 G1) (hl : ks.length = vs.length := by rfl) (h0 : ks.map some ≠ [] := by simp) (h15 : (ks.map some).length ≤ 15 := by simp) (hall : (ks.map some).all (·.isSome) = true := by rfl) :
    WE X (.Dict (ks.map some) vs pos) r G Q := fun F0 T F H σ lk S => Run.of (pe_disp (prs_ok ks vs hl) hall (by rw [List.length_map]; exact hl) h0 h15) fun L hD => by
  obtain ⟨f1, f2, f3⟩ := S.bas.freshF hD
  have f0 : F0 L = none := by
    cases e : F0 L with
    | none => rfl
    | some u => rw [S.bas.ff L u e] at f1; cases f1
  refine prs_mono ks vs (wpr_run ks vs r G _ F0 _ F _ σ hl (lk.ext (Ex.new f3)) (S.tbegin hD (.dK []) f0) h) fun ps H' ⟨kvs, us, r', G', F', z1, z0, z2, z3, z4, z5⟩ => ?_
  obtain ⟨t1, t2, t3⟩ := z4.tF f0
  have hlen : us.length ≤ 15 := by rw [z0]; rwa [List.length_map] at h15
  refine ⟨t3, us, z1, hlen, ?_⟩
  obtain ⟨Sc, ow⟩ := (z4.tput f0 (.dK (mergeK [] us))).tend f0 f3
  exact ⟨.fr (dicD _), r', G', F', z3, Sc, ⟨L, rfl, own_dicD (DRep.fold (acc := []) (ws := []) rfl z2) upd_same, t1, t2, f3, ow⟩, z5⟩
theorem we_disp1 {k v : Expr} {Q : Res → Env2 → GD → Prop} (h : WPr X [k] [v] r G fun kvs r1 G1 => Q (.fr (dicD (kvs.foldl (fun acc kv => putD acc kv.1 kv.2) []))) r1 G1) : WE X (.Dict [some k] [v] pos) r G Q := we_disp (ks := [k]) (vs := [v]) h
theorem we_disp2 {k v k2 v2 : Expr} {Q : Res → Env2 → GD → Prop} (h : WPr X [k, k2] [v, v2] r G fun kvs r1 G1 => Q (.fr (dicD (kvs.foldl (fun acc kv => putD acc kv.1 kv.2) []))) r1 G1) : WE X (.Dict [some k, some k2] [v, v2] pos) r G Q := we_disp (ks := [k, k2]) (vs := [v, v2]) h
theorem we_disp3 {k v k2 v2 k3 v3 : Expr} {Q : Res → Env2 → GD → Prop} (h : WPr X [k, k2, k3] [v, v2, v3] r G fun kvs r1 G1 => Q (.fr (dicD (kvs.foldl (fun acc kv => putD acc kv.1 kv.2) []))) r1 G1) : WE X (.Dict [some k, some k2, some k3] [v, v2, v3] pos) r G Q := we_disp (ks := [k, k2, k3]) (vs := [v, v2, v3]) h
theorem disp_of {κ ν : Type} [DecidableEq κ] {k : κ → Key} {f : ν → D} (hk : KInj k) (kvs : List (κ × ν)) {P : D → Prop} (q : P (eD k f (dmk kvs))) : P (dicD ((eDl k f kvs).foldl (fun acc kv => putD acc kv.1 kv.2) [])) := by
  have e2 := fold_putD (f := f) hk kvs []
  rw [show eDl k f [] = [] from rfl] at e2
  rw [e2, eD_dicD]
  exact q
/-! ### d == {} -/
def rDEq0 : R2 := fun x y H Q => ∃ a b ks, x = .ref a ∧ y = .ref b ∧ Rd H a (.dK ks) ∧ Rd H b (.dK []) ∧ Q (.bl ks.isEmpty) H
theorem op_deq0 {X : Cx} (hu : X.A.units < cLine) : OpR X (compareOp .Eq) rDEq0 := by
  intro pins s σ H x y v u Q I rx ry h
  obtain ⟨a, b, ks, rfl, rfl, ea, eb, q⟩ := h
  obtain rfl : v = Value.ref a := rx
  obtain rfl : u = Value.ref b := ry
  obtain ⟨za, ya, va, ra, da⟩ := dk_rd I.hok ea
  obtain ⟨zb, yb, vb, rb, db⟩ := dk_rd I.hok eb
  have hb : vb = [] := by have := rb.length; cases vb with | nil => rfl | cons => simp at this
  subst hb
  have hl := ra.length
  refine PySem.W.keq_eq (knd := mixKind X.prog X.w) (r := true) ya yb da db hu (fun e => ?_) (fin_bl I q ?_)
  · have : va = [] := List.length_eq_zero_iff.mp e
    subst this
    exact .nil
  · cases ks with
    | nil => have : va = [] := List.length_eq_zero_iff.mp hl.symm; subst this; rfl
    | cons p ks => cases va with
      | nil => simp at hl
      | cons => rfl
theorem t_deq0 {κ ν : Type} {k : κ → Key} {f : ν → D} (hu : X.A.units + 64 < cLine) (kvs : List (κ × ν)) {Q : Res → Prop} (q : Q (.sh (.bl kvs.isEmpty))) : OpW X (compareOp .Eq) (eD k f kvs) (.dic [] []) Q := by
  refine opw_flat (d := .bl kvs.isEmpty) (v := .bl kvs.isEmpty) (fun _ _ => rfl) (fun F H va vb ex h1 h3 => ?_) q
  obtain ⟨p, us, rfl, k1, k2⟩ := h1.dics ex
  obtain ⟨p2, us2, rfl, k3, k4⟩ := h3.dics ex
  cases (show us2 = [] from k4)
  refine ⟨_, op_deq0 (by omega), fun P hp => ⟨p, p2, us, rfl, rfl, k1, k3, ?_⟩⟩
  have : us.isEmpty = kvs.isEmpty := by
    have := k2.length
    rw [zip_eDl] at this
    unfold eDl at this
    rw [List.length_map] at this
    cases us with
    | nil => cases kvs with
      | nil => rfl
      | cons => simp at this
    | cons => cases kvs with
      | nil => simp at this
      | cons => rfl
  rw [this]; exact hp
/-! ### sorted(d), the keys texts -/
theorem rising_chain : ∀ (ys : List Str) (p : Str), risingS p ys = true → (p :: ys).Pairwise fun a b => ¬ b.cps.toList < a.cps.toList
  | [], p, _ => by simp
  | y :: ys, p, h => by
    unfold risingS at h
    rw [Bool.and_eq_true] at h
    have ih := rising_chain ys y h.2
    have h1 : ¬ y.cps.toList < p.cps.toList := by
      intro z
      have : ltCps y.cps.toList p.cps.toList = true := by
        rw [ltCps_eq]; exact decide_eq_true z
      rw [this] at h; simp at h
    refine List.pairwise_cons.mpr ⟨fun b hb => ?_, ih⟩
    rcases List.mem_cons.mp hb with e | e
    · subst e; exact h1
    · intro z
      have h2 := (List.pairwise_cons.mp ih).1 b e
      exact h2 (by
        by_cases h3 : b.cps.toList < y.cps.toList
        · exact h3
        · by_cases h4 : y.cps.toList < b.cps.toList
          · exact absurd (List.lt_trans h4 z) h1
          · rw [RBS.ltL_tri _ _ h3 h4] at z; exact absurd z h1)
theorem sortedS_chain : ∀ (ys : List Str), sortedS ys = true → ys.Pairwise fun a b => ¬ b.cps.toList < a.cps.toList
  | [], _ => List.Pairwise.nil
  | y :: ys, h => rising_chain ys y h
theorem leS_trans (a b c : S) (h1 : leS a b = true) (h2 : leS b c = true) : leS a c = true := by
  unfold leS at *
  rw [decide_eq_true_eq] at *
  exact List.le_trans h1 h2
theorem leS_total (a b : S) : (leS a b || leS b a) = true := by
  unfold leS
  rw [Bool.or_eq_true, decide_eq_true_eq, decide_eq_true_eq]
  exact List.le_total _ _
theorem ssort_perm (xs : List S) : (ssort xs).Perm xs := List.mergeSort_perm _ _
theorem ssort_sorted (xs : List S) : (ssort xs).Pairwise fun a b => leS a b = true := List.pairwise_mergeSort leS_trans leS_total xs
theorem strs_rep {K : PySem.W.Frag} {F : Hp} : ∀ (xs : List S), RepL K F (xs.map eZ) ((xs.map (·.1)).map V.str)
  | [] => rfl
  | x :: xs => ⟨_, _, rfl, rfl, strs_rep xs⟩
/-- sorted(d), the keys texts -/
theorem t_sortedDS {ν : Type} {f : ν → D} (kvs : List (S × ν)) (hcalm : X.calm = true) (h64 : kvs.length < 64) {Q : Res → Prop} (q : Q (.fr (.lst ((ssort (kvs.map (·.1))).map eZ)))) : CallW1 X (.builtin "sorted") (eD kZ f kvs) Q := fun F0 T F G H r σ v S hv => by
  obtain ⟨p, us, rfl, h1, h2⟩ := hv.dics S.bas.fh
  refine ⟨_, call_sortedD hcalm, p, us, (kvs.map (·.1)).map (·.1), rfl, h1, ?_, by rw [List.length_map, List.length_map]; exact h64, fun ys l hp hs hl => ?_⟩
  · have := h2.keys
    rw [zip_eDl] at this
    rw [this]
    unfold eDl
    rw [List.map_map, List.map_map, List.map_map]; rfl
  · have e : ys = (ssort (kvs.map (·.1))).map (·.1) := by
      refine List.Perm.eq_of_pairwise (le := fun a b : Str => ¬ b.cps.toList < a.cps.toList) (fun a b _ _ h h' => RBS.str_ext (RBS.ltL_tri _ _ h' h)) (sortedS_chain ys hs) ?_ (hp.trans ((ssort_perm _).map _).symm)
      exact List.pairwise_map.mpr ((ssort_sorted _).imp fun {a b} h => by
        unfold leS at h
        rw [decide_eq_true_eq] at h
        exact List.not_lt.mpr h)
    subst e
    exact new_lst S (strs_rep _) hl q
theorem t_sortedS (xs : List S) (h64 : xs.length < 64) {Q : Res → Prop} (q : Q (.fr (.lst ((ssort xs).map eZ)))) : CallW1 X (.builtin "sorted") (.lst (xs.map eZ)) Q := fun F0 T F G H r σ v S hv => by
  obtain ⟨p, vs, rfl, h1, h2⟩ := hv.lst S.bas.fh
  have ev : ∀ (xs : List RB.S) (vs : List V), RepL X.K F (xs.map eZ) vs → vs = (xs.map (·.1)).map V.str := by
    intro xs
    induction xs with
    | nil => intro vs h; exact h
    | cons x xs ih => intro vs ⟨v, r, e1, e2, e3⟩; subst e1; rw [ih r e3]; cases (show v = .str x.1 from e2); rfl
  have e := ev xs vs h2
  subst e
  refine ⟨_, cr_sortedS, p, xs.map (·.1), rfl, .inl h1, by rw [List.length_map]; exact h64, fun ys l hp hs hl => ?_⟩
  have e : ys = (ssort xs).map (·.1) := by
    refine List.Perm.eq_of_pairwise (le := fun a b : Str => ¬ b.cps.toList < a.cps.toList) (fun a b _ _ h h' => RBS.str_ext (RBS.ltL_tri _ _ h' h)) (sortedS_chain ys hs) ?_ (hp.trans ((ssort_perm _).map _).symm)
    exact List.pairwise_map.mpr ((ssort_sorted _).imp fun {a b} h => by
      unfold leS at h
      rw [decide_eq_true_eq] at h
      exact List.not_lt.mpr h)
  subst e
  exact new_lst S (strs_rep _) hl q
end

theorem kt_NoneType_bool {K : PySem.W.Frag} : PySem.W.kitOne K (.type "NoneType") (.type "bool") = some false := kit_ty (by decide +kernel)
theorem kt_NoneType_int {K : PySem.W.Frag} : PySem.W.kitOne K (.type "NoneType") (.type "int") = some false := kit_ty (by decide +kernel)
theorem kt_NoneType_str {K : PySem.W.Frag} : PySem.W.kitOne K (.type "NoneType") (.type "str") = some false := kit_ty (by decide +kernel)
theorem kt_NoneType_tuple {K : PySem.W.Frag} : PySem.W.kitOne K (.type "NoneType") (.type "tuple") = some false := kit_ty (by decide +kernel)
theorem kt_NoneType_list {K : PySem.W.Frag} : PySem.W.kitOne K (.type "NoneType") (.type "list") = some false := kit_ty (by decide +kernel)
theorem kt_NoneType_dict {K : PySem.W.Frag} : PySem.W.kitOne K (.type "NoneType") (.type "dict") = some false := kit_ty (by decide +kernel)
theorem kt_bool_bool {K : PySem.W.Frag} : PySem.W.kitOne K (.type "bool") (.type "bool") = some true := kit_ty (by decide +kernel)
theorem kt_bool_int {K : PySem.W.Frag} : PySem.W.kitOne K (.type "bool") (.type "int") = some true := kit_ty (by decide +kernel)
theorem kt_bool_str {K : PySem.W.Frag} : PySem.W.kitOne K (.type "bool") (.type "str") = some false := kit_ty (by decide +kernel)
theorem kt_bool_tuple {K : PySem.W.Frag} : PySem.W.kitOne K (.type "bool") (.type "tuple") = some false := kit_ty (by decide +kernel)
theorem kt_bool_list {K : PySem.W.Frag} : PySem.W.kitOne K (.type "bool") (.type "list") = some false := kit_ty (by decide +kernel)
theorem kt_bool_dict {K : PySem.W.Frag} : PySem.W.kitOne K (.type "bool") (.type "dict") = some false := kit_ty (by decide +kernel)
theorem kt_int_bool {K : PySem.W.Frag} : PySem.W.kitOne K (.type "int") (.type "bool") = some false := kit_ty (by decide +kernel)
theorem kt_int_int {K : PySem.W.Frag} : PySem.W.kitOne K (.type "int") (.type "int") = some true := kit_ty (by decide +kernel)
theorem kt_int_str {K : PySem.W.Frag} : PySem.W.kitOne K (.type "int") (.type "str") = some false := kit_ty (by decide +kernel)
theorem kt_int_tuple {K : PySem.W.Frag} : PySem.W.kitOne K (.type "int") (.type "tuple") = some false := kit_ty (by decide +kernel)
theorem kt_int_list {K : PySem.W.Frag} : PySem.W.kitOne K (.type "int") (.type "list") = some false := kit_ty (by decide +kernel)
theorem kt_int_dict {K : PySem.W.Frag} : PySem.W.kitOne K (.type "int") (.type "dict") = some false := kit_ty (by decide +kernel)
theorem kt_str_bool {K : PySem.W.Frag} : PySem.W.kitOne K (.type "str") (.type "bool") = some false := kit_ty (by decide +kernel)
theorem kt_str_int {K : PySem.W.Frag} : PySem.W.kitOne K (.type "str") (.type "int") = some false := kit_ty (by decide +kernel)
theorem kt_str_str {K : PySem.W.Frag} : PySem.W.kitOne K (.type "str") (.type "str") = some true := kit_ty (by decide +kernel)
theorem kt_str_tuple {K : PySem.W.Frag} : PySem.W.kitOne K (.type "str") (.type "tuple") = some false := kit_ty (by decide +kernel)
theorem kt_str_list {K : PySem.W.Frag} : PySem.W.kitOne K (.type "str") (.type "list") = some false := kit_ty (by decide +kernel)
theorem kt_str_dict {K : PySem.W.Frag} : PySem.W.kitOne K (.type "str") (.type "dict") = some false := kit_ty (by decide +kernel)
theorem kt_tuple_bool {K : PySem.W.Frag} : PySem.W.kitOne K (.type "tuple") (.type "bool") = some false := kit_ty (by decide +kernel)
theorem kt_tuple_int {K : PySem.W.Frag} : PySem.W.kitOne K (.type "tuple") (.type "int") = some false := kit_ty (by decide +kernel)
theorem kt_tuple_str {K : PySem.W.Frag} : PySem.W.kitOne K (.type "tuple") (.type "str") = some false := kit_ty (by decide +kernel)
theorem kt_tuple_tuple {K : PySem.W.Frag} : PySem.W.kitOne K (.type "tuple") (.type "tuple") = some true := kit_ty (by decide +kernel)
theorem kt_tuple_list {K : PySem.W.Frag} : PySem.W.kitOne K (.type "tuple") (.type "list") = some false := kit_ty (by decide +kernel)
theorem kt_tuple_dict {K : PySem.W.Frag} : PySem.W.kitOne K (.type "tuple") (.type "dict") = some false := kit_ty (by decide +kernel)
theorem kt_list_bool {K : PySem.W.Frag} : PySem.W.kitOne K (.type "list") (.type "bool") = some false := kit_ty (by decide +kernel)
theorem kt_list_int {K : PySem.W.Frag} : PySem.W.kitOne K (.type "list") (.type "int") = some false := kit_ty (by decide +kernel)
theorem kt_list_str {K : PySem.W.Frag} : PySem.W.kitOne K (.type "list") (.type "str") = some false := kit_ty (by decide +kernel)
theorem kt_list_tuple {K : PySem.W.Frag} : PySem.W.kitOne K (.type "list") (.type "tuple") = some false := kit_ty (by decide +kernel)
theorem kt_list_list {K : PySem.W.Frag} : PySem.W.kitOne K (.type "list") (.type "list") = some true := kit_ty (by decide +kernel)
theorem kt_list_dict {K : PySem.W.Frag} : PySem.W.kitOne K (.type "list") (.type "dict") = some false := kit_ty (by decide +kernel)
theorem kt_dict_bool {K : PySem.W.Frag} : PySem.W.kitOne K (.type "dict") (.type "bool") = some false := kit_ty (by decide +kernel)
theorem kt_dict_int {K : PySem.W.Frag} : PySem.W.kitOne K (.type "dict") (.type "int") = some false := kit_ty (by decide +kernel)
theorem kt_dict_str {K : PySem.W.Frag} : PySem.W.kitOne K (.type "dict") (.type "str") = some false := kit_ty (by decide +kernel)
theorem kt_dict_tuple {K : PySem.W.Frag} : PySem.W.kitOne K (.type "dict") (.type "tuple") = some false := kit_ty (by decide +kernel)
theorem kt_dict_list {K : PySem.W.Frag} : PySem.W.kitOne K (.type "dict") (.type "list") = some false := kit_ty (by decide +kernel)
theorem kt_dict_dict {K : PySem.W.Frag} : PySem.W.kitOne K (.type "dict") (.type "dict") = some true := kit_ty (by decide +kernel)
/-- the value of an assignment -/
def asgV : Stmt → Expr
  | .Assign _ v _ => v
  | _ => .Constant .none 0 ⟨0, 0, 0, 0⟩

open Out (Rt)
section
variable {X : Cy} {e a b c o tg kx vx elt i : Expr} {es ifs : List Expr} {st : Stmt} {sts rest body orelse : List Stmt} {r : Env2} {G : GD} {pos tpos apos cpos p0 : Pos} {D0 : EndsD} {α β γ σT ρ : Type}
theorem we_ifN (en : α → D) {Q : Res → Env2 → GD → Prop}
    (h : WT X c r G fun d r1 G1 => ∃ (β : Type) (ma mb : Out α) (f : α → Out β) (Q0 : β → Prop) (E : Xm → Prop), ((if d = true then ma else mb).bind f).sat Q0 E ∧ (d = true → ∀ Q' : α → Prop, ma.sat Q' E → WE X a r1 G1 fun x r2 G2 => ∃ v, x = .sh (en v) ∧ r2 = r1 ∧ G2 = G1 ∧ Q' v) ∧
      (d = false → ∀ Q' : α → Prop, mb.sat Q' E → WE X b r1 G1 fun x r2 G2 => ∃ v, x = .sh (en v) ∧ r2 = r1 ∧ G2 = G1 ∧ Q' v) ∧ ∀ v, (f v).sat Q0 E → Q (.sh (en v)) r1 G1) : WE X (.IfExp c a b pos) r G Q :=
  we_ifExp (h.mono fun d r1 G1 ⟨β, ma, mb, f, Q0, E, h0, h1, h2, q⟩ => ⟨fun hd => by
    rw [if_pos hd] at h0
    exact (h1 hd _ (Out.sb h0)).mono fun x r2 G2 ⟨v, m1, m2, m3, m4⟩ => by subst m1 m2 m3; exact q v m4, fun hd => by
    rw [if_neg (by rw [hd]; exact Bool.false_ne_true)] at h0
    exact (h2 hd _ (Out.sb h0)).mono fun x r2 G2 ⟨v, m1, m2, m3, m4⟩ => by subst m1 m2 m3; exact q v m4⟩)
theorem we_andN {Q : Res → Env2 → GD → Prop} (h : WE X a r G fun x r1 G1 => ∃ (β : Type) (c1 : Bool) (m : Out Bool) (f : Bool → Out β) (Q0 : β → Prop) (E : Xm → Prop), x = .sh (.bl c1) ∧ ((if c1 = true then m else .ok false).bind f).sat Q0 E ∧ (c1 = true → ∀ Q' : Bool → Prop, m.sat Q' E → WE X (.BoolOp .And (b :: es) pos) r1 G1 fun y r2 G2 => ∃ c2, y = .sh (.bl c2) ∧ r2 = r1 ∧ G2 = G1 ∧ Q' c2) ∧ ∀ v, (f v).sat Q0 E → Q (.sh (.bl v)) r1 G1) : WE X (.BoolOp .And (a :: b :: es) pos) r G Q :=
  we_and (h.mono fun x r1 G1 ⟨β, c1, m, f, Q0, E, hx, h0, h1, q⟩ => ⟨c1, hx, fun hc => by
    rw [if_pos hc] at h0
    exact (h1 hc _ (Out.sb h0)).mono fun y r2 G2 ⟨c2, m1, m2, m3, m4⟩ => by subst m1 m2 m3; exact q c2 m4, fun hc => by
    rw [if_neg (by rw [hc]; exact Bool.false_ne_true)] at h0
    exact q false h0⟩)
theorem we_orN {Q : Res → Env2 → GD → Prop} (h : WE X a r G fun x r1 G1 => ∃ (β : Type) (c1 : Bool) (m : Out Bool) (f : Bool → Out β) (Q0 : β → Prop) (E : Xm → Prop), x = .sh (.bl c1) ∧ ((if c1 = true then .ok true else m).bind f).sat Q0 E ∧ (c1 = false → ∀ Q' : Bool → Prop, m.sat Q' E → WE X (.BoolOp .Or (b :: es) pos) r1 G1 fun y r2 G2 => ∃ c2, y = .sh (.bl c2) ∧ r2 = r1 ∧ G2 = G1 ∧ Q' c2) ∧ ∀ v, (f v).sat Q0 E → Q (.sh (.bl v)) r1 G1) : WE X (.BoolOp .Or (a :: b :: es) pos) r G Q :=
  we_or (h.mono fun x r1 G1 ⟨β, c1, m, f, Q0, E, hx, h0, h1, q⟩ => ⟨c1, hx, fun hc => by
    rw [if_neg (by rw [hc]; exact Bool.false_ne_true)] at h0
    exact (h1 hc _ (Out.sb h0)).mono fun y r2 G2 ⟨c2, m1, m2, m3, m4⟩ => by subst m1 m2 m3; exact q c2 m4, fun hc => by
    rw [if_pos hc] at h0
    exact q true h0⟩)
theorem ww_andN {Q : Bool → Env2 → GD → Prop} (h : WT X a r G fun c1 r1 G1 => ∃ (β : Type) (m : Out Bool) (f : Bool → Out β) (Q0 : β → Prop) (E : Xm → Prop), ((if c1 = true then m else .ok false).bind f).sat Q0 E ∧ (c1 = true → ∀ Q' : Bool → Prop, m.sat Q' E → WW X (.BoolOp .And (b :: es) pos) r1 G1 fun d r2 G2 => r2 = r1 ∧ G2 = G1 ∧ Q' d) ∧ ∀ v, (f v).sat Q0 E → Q v r1 G1) : WW X (.BoolOp .And (a :: b :: es) pos) r G Q :=
  ww_and (h.mono fun c1 r1 G1 ⟨β, m, f, Q0, E, h0, h1, q⟩ => ⟨fun hc => by
    rw [if_pos hc] at h0
    exact (h1 hc _ (Out.sb h0)).monoT fun d r2 G2 ⟨m2, m3, m4⟩ => by subst m2 m3; exact q d m4, fun hc => by
    rw [if_neg (by rw [hc]; exact Bool.false_ne_true)] at h0
    exact q false h0⟩)
theorem ww_orN {Q : Bool → Env2 → GD → Prop} (h : WT X a r G fun c1 r1 G1 => ∃ (β : Type) (m : Out Bool) (f : Bool → Out β) (Q0 : β → Prop) (E : Xm → Prop), ((if c1 = true then .ok true else m).bind f).sat Q0 E ∧ (c1 = false → ∀ Q' : Bool → Prop, m.sat Q' E → WW X (.BoolOp .Or (b :: es) pos) r1 G1 fun d r2 G2 => r2 = r1 ∧ G2 = G1 ∧ Q' d) ∧ ∀ v, (f v).sat Q0 E → Q v r1 G1) : WW X (.BoolOp .Or (a :: b :: es) pos) r G Q :=
  ww_or (h.mono fun c1 r1 G1 ⟨β, m, f, Q0, E, h0, h1, q⟩ => ⟨fun hc => by
    rw [if_neg (by rw [hc]; exact Bool.false_ne_true)] at h0
    exact (h1 hc _ (Out.sb h0)).monoT fun d r2 G2 ⟨m2, m3, m4⟩ => by subst m2 m3; exact q d m4, fun hc => by
    rw [if_pos hc] at h0
    exact q true h0⟩)
/-- {k: v for tg in e}, by a mirror with a state -/
theorem we_dcS {κ ν : Type} [DecidableEq κ] {scope : Scope} (own : List (Str × Nat)) (R : Env2) (gg : σT → GD) {en : α → D} (ek : κ → Key) (ev : ν → D) (hk : KInj ek) {Q : Res → Env2 → GD → Prop} (hc : X.calm = true) (hN : X.N.Nodup) (ok : BlkOk X.N X.env.scope scope own)
    (h : WI X tg e r G fun ds r2 G1 => ∃ (γ : Type) (xs : List α) (s0 : σT) (f : σT → α → Out (Option (κ × ν) × σT)) (kk : List (κ × ν) × σT → Out γ) (Q0 : γ → Prop) (E : Xm → Prop), ds = xs.map en ∧ xs.length ≤ LIM ∧ Wk (wipeD r2 (own.map (·.2))) R ∧ G1 = gg s0 ∧ ((Out.compS f xs [] s0).bind kk).sat Q0 E ∧
      (∀ s x (Q' : Option (κ × ν) × σT → Prop), (f s x).sat Q' E → Blk X scope fun Y => WG Y tg (en x) R (gg s) (own.map (·.2)) fun r3 G3 => match ifs with
        | [] => Blk X scope fun Y => WE Y kx r3 G3 fun z r4 G4 => ∃ k, z = .sh (kD (ek k)) ∧ Blk X scope fun Y => WE Y vx r4 G4 fun z r5 G5 => ∃ y s' r6, fz r5 z = some (ev y, r6) ∧ Wk (wipeD r6 (own.map (·.2))) R ∧ G5 = gg s' ∧ Q' (some (k, y), s')
        | [c] => Blk X scope fun Y => WT Y c r3 G3 fun b r4 G4 => (b = true → Blk X scope fun Y => WE Y kx r4 G4 fun z r5 G5 => ∃ k, z = .sh (kD (ek k)) ∧ Blk X scope fun Y => WE Y vx r5 G5 fun z r6 G6 => ∃ y s' r7, fz r6 z = some (ev y, r7) ∧ Wk (wipeD r7 (own.map (·.2))) R ∧ G6 = gg s' ∧ Q' (some (k, y), s')) ∧ (b = false → ∃ s', Wk (wipeD r4 (own.map (·.2))) R ∧ G4 = gg s' ∧ Q' (none, s'))
        | _ => False) ∧ ∀ p : List (κ × ν) × σT, (kk p).sat Q0 E → Q (.fr (eD ek ev (dmk p.1))) R (gg p.2))
    (hs : ∀ x, foldedSetIterable e X.env x = pure x := by intro _; rfl) : WE X (.DictComp kx vx [⟨tg, e, ifs, 0⟩] scope pos) r G Q :=
  WE.wkp (we_dc own hc hN ok (h.mono fun ds r2 G1 ⟨γ, xs, s0, f, kk, Q0, E, hd, hl, w, hg, h0, hb, hq⟩ => by
    subst hd hg
    refine ⟨fun k acc r3 G3 => ∃ ys s, Wk r3 R ∧ G3 = gg s ∧ acc = eDl ek ev (dmk ys) ∧ ys.length ≤ k ∧ ((Out.compS f (xs.drop k) ys s).bind kk).sat Q0 E, ⟨[], s0, w, rfl, rfl, Nat.le_refl _, h0⟩, fun k d acc r3 G3 hd ⟨ys, s, w3, hG, ha, hly, hq3⟩ => ?_, fun acc r3 G3 ⟨ys, s, w3, hG, ha, hly, hq3⟩ => ?_⟩
    · subst hG ha
      obtain ⟨x, hx, rfl⟩ := map_at hd
      have hlt : k < xs.length := (List.getElem?_eq_some_iff.mp hx).1
      rw [drop_at hx] at hq3
      have st := hb s x _ (compS_step hq3)
      have lim : (eDl ek ev (dmk ys)).length < LIM := by
        unfold eDl
        rw [List.length_map]
        have := dmk_len ys
        omega
      have snoc : ∀ (k : κ) (y : ν), putD (eDl ek ev (dmk ys)) (ek k) (ev y) = eDl ek ev (dmk (ys ++ [(k, y)])) := fun k y => by rw [putD_eDl hk, dmk_snoc]
      intro Y hY
      refine WG.mono (WG.weak w3 (st Y hY)) fun r4 G4 q' => ?_
      match ifs, q' with
      | [], q' =>
        refine fun Y hY => (q' Y hY).mono fun zz r5 G5 ⟨key, hz, q2⟩ => ⟨ek key, hz, fun Y hY => (q2 Y hY).mono fun zz r6 G6 ⟨y, s', r7, m1, m2, m3, m4⟩ => ⟨ev y, r7, m1, lim, ys ++ [(key, y)], s', m2, m3, snoc key y, by rw [List.length_append]; exact Nat.succ_le_succ hly, m4⟩⟩
      | [c], q' =>
        refine fun Y hY => (q' Y hY).mono fun b r5 G5 ⟨q1, q2⟩ => ⟨fun hb1 Y hY => ?_, fun hb0 => ?_⟩
        · exact (q1 hb1 Y hY).mono fun zz r6 G6 ⟨key, hz, q3⟩ => ⟨ek key, hz, fun Y hY => (q3 Y hY).mono fun zz r7 G7 ⟨y, s', r8, m1, m2, m3, m4⟩ => ⟨ev y, r8, m1, lim, ys ++ [(key, y)], s', m2, m3, snoc key y, by rw [List.length_append]; exact Nat.succ_le_succ hly, m4⟩⟩
        · obtain ⟨s', m2, m3, m4⟩ := q2 hb0
          exact ⟨ys, s', m2, m3, rfl, Nat.le_succ_of_le hly, m4⟩
      | _ :: _ :: _, q' => exact q'.elim
    · subst hG ha
      rw [List.length_map, List.drop_length] at hq3
      rw [eD_dicD]
      exact ⟨R, w3, (fun i z => by cases z), hq (ys, s) hq3⟩) hs)
end

open Out (Rt)
/-! ### enumerate of a dict -/
section
variable {prog : Program} {w : World} {A : Around} {E : Value → Shared → Prop} {s : Shared}
theorem nextOf_key_item {it d : Addr} {i n ep : Nat} {od : Obj} {es : Array DictEntry} {en : DictEntry} {Q : Value → Shared → Prop} (hit : s.heap.IsKeyIter it d i n ep) (hod : s.heap.get? d = some od) (hdd : od.data = .dict es ep)
    (hsz : es.size = n) (hx : es[i]? = some en) (hQ : ∀ h', h'.IsKeyIter it d (i + 1) n ep → Heap.SameBut it s.heap h' → Q en.key { s with heap := h' }) : wpAny (model prog w) A (Builtin.SmallTypes.nextOf (.ref it)) Q E s := by
  obtain ⟨o, ho, hc, hd⟩ := id hit
  unfold Builtin.SmallTypes.nextOf
  refine wpAny_bind (wpAny_callSpecial?_slot (name := Str.ofString "__next__") hit.typeIs F.slot_dict_keyiterator_next
    (wpAny_call_entry F.slot_dict_keyiterator_next hit.typeIs F.entry_dict_keyiterator_next ?_ (F.args_dict_keyiterator_next_1 _)))
  refine wpAny_bind (wpAny_pure ?_)
  refine wpAny_bind ?_
  refine wpAny_bind ?_
  first | refine wpAny_bind (wpAny_typeNameOfWhole_keyiter hit.typeIs (wpAny_pure ?_)) | refine wpAny_bind (wpAny_typeNameOf_keyiter hit.typeIs (wpAny_pure ?_))
  refine wpAny_bind (wpAny_fieldsOf ho hd ?_)
  have hown : Builtin.Dict_items.ownsTuple "dict_keyiterator" = false := by decide
  simp only [hown, Bool.false_eq_true, if_false]
  show wpAny _ _ (if (Value.ref d == Value.none) = true then _ else _) _ _ s
  rw [if_neg (show ¬ ((Value.ref d == Value.none) = true) from Bool.false_ne_true)]
  refine wpAny_bind (wpAny_pure ?_)
  refine wpAny_bind (wpAny_dictEntries hod hdd ?_)
  rw [if_neg (by rw [hsz]; simp)]
  refine wpAny_bind (wpAny_pure ?_)
  refine wpAny_bind (wpAny_dictEpoch hod hdd ?_)
  rw [if_neg (by simp)]
  refine wpAny_pure ?_
  obtain ⟨hlt', hen⟩ := Array.getElem?_eq_some_iff.mp hx
  simp only [show ¬ ((i : Int) < 0) from by omega, if_false, Int.toNat_natCast, Array.getElem?_eq_getElem hlt']
  refine wpAny_bind ?_
  first | refine wpAny_bind (wpAny_typeNameOfWhole_keyiter hit.typeIs (wpAny_pure ?_)) | refine wpAny_bind (wpAny_typeNameOf_keyiter hit.typeIs (wpAny_pure ?_))
  refine wpAny_bind (wpAny_isOneOf_keyiter hit.typeIs ?_)
  show wpAny _ _ (setField (.ref it) 1 (rawInt ((i : Int) + 1)) >>= _) _ _ s
  refine wpAny_bind (wpAny_setField ho hd (by simp) ?_)
  have hit' : (s.heap.update it (Obj.mapFields (·.setIfInBounds 1 (rawInt ((i : Int) + 1))))).IsKeyIter it d (i + 1) n ep :=
    ⟨_, Heap.get?_update_self _ ho (Obj.isFreed_of_fields (Obj.data_mapFields hd _)), (Obj.cls_mapFields ..).trans hc, by rw [Obj.data_mapFields hd]; simp [rawInt]⟩
  refine wpAny_bind (wpAny_holding ?_)
  refine wpAny_bind (wpAny_isOneOf_keyiter (s := { s with heap := s.heap.update it (Obj.mapFields (·.setIfInBounds 1 (rawInt ((i : Int) + 1)))) }) hit'.typeIs ?_)
  show wpAny _ _ (pure es[i].key) _ _ _
  rw [hen]
  exact wpAny_pure (wpAny_pure ⟨_, rfl, wpAny_pure (hQ _ hit' (Heap.SameBut.update ..))⟩)
theorem nextOf_key_end {it d : Addr} {i n ep : Nat} {od : Obj} {es : Array DictEntry} {Q : Value → Shared → Prop} (hh : A.handled = none) (hit : s.heap.IsKeyIter it d i n ep) (hod : s.heap.get? d = some od) (hdd : od.data = .dict es ep)
    (hsz : es.size = n) (hge : n ≤ i) (hE : ∀ h' e, Heap.ExtBut it s.heap h' → (∃ o, h'.get? e = some o ∧ o.cls = .type "StopIteration") → E (.ref e) { s with heap := h' }) : wpAny (model prog w) A (Builtin.SmallTypes.nextOf (.ref it)) Q E s := by
  obtain ⟨o, ho, hc, hd⟩ := id hit
  unfold Builtin.SmallTypes.nextOf
  refine wpAny_bind (wpAny_callSpecial?_slot (name := Str.ofString "__next__") hit.typeIs F.slot_dict_keyiterator_next
    (wpAny_call_entry F.slot_dict_keyiterator_next hit.typeIs F.entry_dict_keyiterator_next ?_ (F.args_dict_keyiterator_next_1 _)))
  refine wpAny_bind (wpAny_pure ?_)
  refine wpAny_bind ?_
  refine wpAny_bind ?_
  first | refine wpAny_bind (wpAny_typeNameOfWhole_keyiter hit.typeIs (wpAny_pure ?_)) | refine wpAny_bind (wpAny_typeNameOf_keyiter hit.typeIs (wpAny_pure ?_))
  refine wpAny_bind (wpAny_fieldsOf ho hd ?_)
  have hown : Builtin.Dict_items.ownsTuple "dict_keyiterator" = false := by decide
  simp only [hown, Bool.false_eq_true, if_false]
  show wpAny _ _ (if (Value.ref d == Value.none) = true then _ else _) _ _ s
  rw [if_neg (show ¬ ((Value.ref d == Value.none) = true) from Bool.false_ne_true)]
  refine wpAny_bind (wpAny_pure ?_)
  refine wpAny_bind (wpAny_dictEntries hod hdd ?_)
  rw [if_neg (by rw [hsz]; simp)]
  refine wpAny_bind (wpAny_pure ?_)
  refine wpAny_bind (wpAny_dictEpoch hod hdd ?_)
  rw [if_neg (by simp)]
  refine wpAny_pure ?_
  have hge' : es.size ≤ i := by rw [hsz]; exact hge
  simp only [show ¬ ((i : Int) < 0) from by omega, if_false, Int.toNat_natCast, Array.getElem?_eq_none hge']
  refine wpAny_bind ?_
  first | refine wpAny_bind (wpAny_typeNameOfWhole_keyiter hit.typeIs (wpAny_pure ?_)) | refine wpAny_bind (wpAny_typeNameOf_keyiter hit.typeIs (wpAny_pure ?_))
  show wpAny _ _ (setField (.ref it) 0 .none >>= _) _ _ s
  refine wpAny_bind (wpAny_setField ho hd (by simp) ?_)
  show wpAny _ _ (newExc (.type "StopIteration") [] >>= _) _ _ _
  refine wpAny_bind ?_
  simp only [newExc, newTuple]
  refine wpAny_bind (wpAny_newObj_type ?_ (by size_fits))
  refine wpAny_bind (m := firstArgMember _ _) (wpAny_of_eq (a := Value.none) (by first | rfl | (simp only [firstArgMember]; rfl)) ?_)
  refine wpAny_newObj_type ?_ (by size_fits)
  simp only [raiseNew]
  refine wpAny_bind (wpAny_handled ?_)
  rw [show A.in1.handled = none from hh]
  refine wpAny_bind (wpAny_pure (wpAny_throw ?_))
  exact hE _ _ (((Heap.SameBut.update ..).extBut.push _).push _) ⟨_, Heap.get?_push_size _ rfl, rfl⟩
theorem drawsK (hh : A.handled = none) (it d : Addr) (hne : d ≠ it) (od : Obj) (es : Array DictEntry) (ep : Nat) (hdd : od.data = .dict es ep) :
    Draws prog w A it [it, d] es.size (fun i v => ∃ en, es[i]? = some en ∧ v = en.key) (fun i h => h.IsKeyIter it d i es.size ep ∧ h.get? d = some od) where
  live := fun _ _ st => let ⟨o, ho, _⟩ := st.1; ⟨o, ho⟩
  frame := fun _ _ _ st hk => ⟨st.1.at fun o e => hk it (by simp) o e, hk d (by simp) od st.2⟩
  item := fun i s Q E hi st hQ => by
    refine nextOf_key_item st.1 st.2 hdd rfl (en := es[i]) (by simp [hi]) fun h' hit' hs' => ?_
    exact hQ _ h' s.toks ⟨_, by simp [hi], rfl⟩ ⟨hit', (hs'.2 d hne).trans st.2⟩ hs'
  done := fun s Q E st hE => nextOf_key_end hh st.1 st.2 hdd rfl (Nat.le_refl _) hE
abbrev kIt (d : Addr) (n ep : Nat) : Obj := { cls := .type "dict_keyiterator", data := .fields #[.ref d, .int 0 0, .int n 0, .int ep 0] }
theorem meets_enumK (d : Addr) (o : Obj) (es : Array DictEntry) (ep : Nat) (hd : (d == sysModules) = false) (hc : o.ExactDict) (hdat : o.data = .dict es ep) :
    Meets (Builtin.«enumerate.__new__» ⟨[.type "enumerate", .ref d], []⟩) (fun _ R s => s.heap.get? d = some o ∧
      R (.ok (.ret (.ref (s.heap.push (kIt d es.size ep)).objs.size))) { s with heap := (s.heap.push (kIt d es.size ep)).push (enO s.heap.objs.size) }) :=
  .of_wp fun prog w A R s h => by
    obtain ⟨c, dc, dt, sl⟩ := o
    obtain ⟨h1, h2⟩ := id hc
    cases h1
    obtain ⟨hp, g, dg, tk, os⟩ := s; obtain ⟨hl, h⟩ := h
    have sub := sub_enumerate
    wp_walk using AutoSeq1.wpAny_loadPart' hl
    refine wpAny_stack_any fun st => wpAny_pure ?_
    split
    · rename_i c _ _ _ _ _
      cases (c == Value.type "enumerate")
      all_goals
        wp_walk using AutoSeq1.wpAny_loadPart' hl, iter_keys hd hl hc hdat
        exact ⟨_, rfl, h⟩
    · wp_walk using AutoSeq1.wpAny_loadPart' hl, iter_keys hd hl hc hdat
      exact ⟨_, rfl, h⟩
theorem callEnumK {d : Addr} {o : Obj} {es : Array DictEntry} {ep : Nat} {Q : Value → Shared → Prop} (hd : (d == sysModules) = false) (ho : s.heap.get? d = some o) (hc : o.ExactDict) (hdat : o.data = .dict es ep)
    (h : ∀ h', IsEnum h' (s.heap.objs.size + 1) s.heap.objs.size 0 .none → h'.IsKeyIter s.heap.objs.size d 0 es.size ep → (∀ b o, s.heap.get? b = some o → h'.get? b = some o) → Q (.ref (s.heap.objs.size + 1)) { s with heap := h' }) :
    wpAny (model prog w) A (call (.type "enumerate") [.ref d]) Q E s := by
  refine callType_new F.called_enumerate (by decide) (F.typeCall_enumerate_1 _) (F.newCall_enumerate_1 _) (fun obj => F.args_object_init_2 obj _) F.entry_enumerate_new (meets_enumK d o es ep hd hc hdat) ⟨ho, ?_⟩
  have z : (s.heap.push (kIt d es.size ep)).objs.size = s.heap.objs.size + 1 := Heap.size_push ..
  show _ ∧ _
  rw [z]
  have he : IsEnum ((s.heap.push (kIt d es.size ep)).push (enO s.heap.objs.size)) (s.heap.objs.size + 1) s.heap.objs.size 0 .none := by
    have q := Heap.get?_push_size (s.heap.push (kIt d es.size ep)) (o := enO s.heap.objs.size) rfl
    rw [z] at q
    exact q
  exact ⟨⟨_, he, rfl⟩, h _ he ⟨_, Heap.get?_push_of_some _ (Heap.get?_push_size _ rfl), rfl, rfl⟩ fun b o x => Heap.get?_push_of_some _ (Heap.get?_push_of_some _ x)⟩
end
/-- the keys of the locked dict d, each in a new pair -/
def ItK2 (d : Addr) (o : Obj) (kvs : List (Key × V)) : It :=
  ⟨fun i H => H d = some (.frz o (.dK kvs)) ∧ i < kvs.length, fun i H v H' => ∃ T k x, v = .ref T ∧ H T = none ∧ H' = upd H T (.tup [.int (i : Nat), kV k]) ∧ kvs[i]? = some (k, x), fun i H => H d = some (.frz o (.dK kvs)) ∧ kvs.length = i⟩
theorem turn_enumK {P : Program} {w : World} {K : PySem.W.Frag} {elts : List Expr} {kk : Nat} {tpos : Pos} (d e it : Addr) (o : Obj) (es : Array DictEntry) (ep : Nat) (kvs : List (Key × V)) (hod : o.data = .dict es ep) (hde : d ≠ e) (hdi : d ≠ it) (hsz0 : es.size = kvs.length) :
    Turn P w K (.Tuple elts kk tpos) (ItK2 d o kvs) [e, it] e (fun i h => (∃ old, IsEnum h e it ((i : Nat) : Int) old) ∧ h.IsKeyIter it d i es.size ep ∧ e ≠ it) where
  mem := by simp
  obj := fun i h st b hb => by
    obtain ⟨⟨old, he⟩, ⟨o, ho, hc, hd⟩, _⟩ := st
    rcases (by simpa using hb : b = e ∨ b = it) with z | z
    · rw [z]; exact ⟨_, he, fun v q => nomatch q⟩
    · rw [z]; exact ⟨o, ho, fun v q => by rw [hd] at q; cases q⟩
  keep := fun i h h' ⟨⟨old, he⟩, hi, hne⟩ k => ⟨⟨old, k e (by simp) _ he⟩, hi.at fun o q => k it (by simp) o q, hne⟩
  item := by
    intro X hP hw hK hc i pins s σ H E I hf st hg
    subst hP hw hK
    obtain ⟨⟨old, he⟩, hit, hne⟩ := st
    obtain ⟨hd, hi⟩ := hg
    obtain ⟨hs, hgd, hx, es', ep', vs, hdt, hsz, kv, hm⟩ := I.frzK hd
    obtain ⟨rfl, rfl⟩ := dict_ep hod hdt
    obtain ⟨⟨k, v⟩, hkv⟩ : ∃ p, kvs[i]? = some p := ⟨kvs[i], List.getElem?_eq_getElem hi⟩
    obtain ⟨u, hu, ru⟩ := kv_get kv hkv
    have hel : e < s.heap.objs.size := Heap.lt_size he
    have hil : it < s.heap.objs.size := by obtain ⟨_, q, _⟩ := hit; exact Heap.lt_size q
    have dr := drawsK (prog := X.prog) (w := X.w) (A := X.A.in1) (I.ok.hd hc) it d hdi o es' ep' hod
    refine wpAny_pyNext_enum_itemD dr he ⟨hit, hgd⟩ (by rw [hsz]; exact hi) hne (by simp [hne, hde.symm]) fun x' h' tk ⟨en, hen, hx'⟩ ho hit' hT hsz' hk => ?_
    have rk : RelV (kV k) x' := by
      obtain ⟨od, es2, hod2, _, hdd2, _, hp, _⟩ := id hm
      rw [hgd] at hod2; cases hod2
      rw [hod] at hdd2; cases hdd2
      rw [hx']
      exact relV_key (show keyIs k en.key = true from (hp.get? (by rw [Array.getElem?_toList]; exact hen) hu).1)
    refine ⟨_, rfl, wpAny_letOwnedTupleGo_enum (s := { s with heap := h', toks := tk + 1 }) ho fun h'' he' sb => ?_⟩
    have hT2 : h''.get? s.heap.objs.size = some { cls := .type "tuple", data := .seq #[.int i tk, x'] } := (sb.2 _ (Nat.ne_of_gt hel)).trans hT
    have new : ObjOk X.prog X.w (upd H s.heap.objs.size (.tup [.int (i : Nat), kV k])) h'' s.heap.objs.size (.tup [.int (i : Nat), kV k]) :=
      ⟨by show 2 ≤ sizeLine; decide, [.int i tk, x'], .cons ⟨_, rfl⟩ (.cons rk .nil), ⟨_, hT2, rfl, _, rfl⟩⟩
    have I1 : Inv X pins σ (upd H s.heap.objs.size (.tup [.int (i : Nat), kV k])) { s with heap := h'', toks := tk + 1 } :=
      I.turnedNew (ch := [e, it]) (fun b ob hb q => (sb.2 b (fun z => hb (by simp [z]))).trans (hk b ob (fun z => hb (by simp [z])) (fun z => hb (by simp [z])) q)) hf (Nat.le_refl _) new
    refine ⟨.ref s.heap.objs.size, _, I1, rfl, ⟨_, k, v, rfl, I.hok.fresh (Nat.le_refl _), rfl, hkv⟩, ⟨⟨x', he'⟩, hit'.1.at fun o q => (sb.2 it (Ne.symm hne)).trans q, hne⟩, fun b hb => ?_⟩
    have hb' : b < s.heap.objs.size := by
      rcases (by simpa using hb : b = e ∨ b = it) with z | z
      · rw [z]; exact hel
      · rw [z]; exact hil
    rw [upd_ne (Nat.ne_of_lt hb')]
    exact (hf b hb).1
  done := by
    intro X hP hw hK hc i pins s σ H E I hf st hg
    subst hP hw hK
    obtain ⟨⟨old, he⟩, hit, hne⟩ := st
    obtain ⟨hd, hx⟩ := hg
    obtain ⟨hs, hgd, hx2, es', ep', vs, hdt, hsz, kv, hm⟩ := I.frzK hd
    obtain ⟨rfl, rfl⟩ := dict_ep hod hdt
    obtain ⟨f0, f1, f2, f3, f4, f5⟩ := hf it (by simp)
    have hl : es'.size = i := by rw [hsz]; exact hx
    subst hl
    exact wpAny_pyNext_enum_endD (drawsK (prog := X.prog) (w := X.w) (A := X.A.in1) (I.ok.hd hc) it d hdi o es' ep' hod) he ⟨hit, hgd⟩ fun h' eb => ⟨rfl, I.turned (t' := s.toks) (fun b o hb q => eb b o hb q) f0 f1 f3 f4 f5⟩
  self := fun A i s Q E ⟨⟨_, he⟩, _⟩ h => wpAny_pyIter_enum he h
def iEnumK (ta : TA) : TI := fun σ H R => ta σ H fun vs H1 => ∃ d o kvs, vs = [.ref d] ∧ H1 d = some (.frz o (.dK kvs)) ∧ R (ItK2 d o kvs) H1
theorem pi_enumK {X : Cx} {e : Expr} {ta : TA} {p pos tpos : Pos} {elts : List Expr} {kk : Nat} (hg : Gl X "enumerate") (hm : X.mg "enumerate" = none) (ha : PA X [e] ta) (hs : starEach [e] X.env = [(false, eval e X.env)] := by rfl) :
    PI X (.Tuple elts kk tpos) (.Call (.Name "enumerate" p) [e] [] pos) (iEnumK ta) := by
  refine ⟨fun pins s σ H R I h => ?_⟩
  refine Call_ (ld_blt I hg hm boot_enumerate (PyProof.Rows.callWith_type1 (thn (ha.run pos pins s σ H _ I h) fun us s1 ⟨vs, H1, I1, r1, q1⟩ => ?_) hs rfl))
  obtain ⟨d, o, kvs, ex, hd, q⟩ := q1
  subst ex
  cases r1 with
  | cons rl rr =>
    cases rr
    cases rl
    obtain ⟨hsy, hgd, hx, es, ep, vs, hdt, hsz, kv, hmm⟩ := I1.frzK hd
    have hdl : d < s1.heap.objs.size := Heap.lt_size hgd
    refine callEnumK hsy hgd hx hdt fun h' he hit hk => wpAny_pyIter_enum he ?_
    refine ⟨s1.heap.objs.size + 1, [s1.heap.objs.size + 1, s1.heap.objs.size], _, _, H1, rfl, I1.kept (t' := s1.toks) hk, turn_enumK d (s1.heap.objs.size + 1) s1.heap.objs.size o es ep kvs hdt (Nat.ne_of_lt (Nat.lt_succ_of_lt hdl)) (Nat.ne_of_lt hdl) hsz, ⟨⟨.none, he⟩, hit, Nat.succ_ne_self _⟩, fun b hb => ?_, q⟩
    have hle : s1.heap.objs.size ≤ b := by
      rcases (by simpa using hb : b = s1.heap.objs.size + 1 ∨ b = s1.heap.objs.size) with z | z
      · rw [z]; exact Nat.le_succ _
      · rw [z]; exact Nat.le_refl _
    exact I1.fpOk hle (I1.hok.fresh hle)
section
variable {X : Cy} {e a b c o tg kx vx elt i : Expr} {es ifs elts : List Expr} {kk : Nat} {st : Stmt} {sts rest body orelse : List Stmt} {r : Env2} {G : GD} {pos tpos apos cpos p0 : Pos} {D0 : EndsD} {α β γ σT ρ : Type}
theorem ti_enumD {κ ν : Type} {k : κ → Key} {f : ν → D} {Q : List D → Env2 → GD → Prop} (hg : Gl X "enumerate") (hm : X.mg "enumerate" = none) (h : WE X a r G fun x r1 G1 => ∃ (kvs : List (κ × ν)) (r2 : Env2), fz r1 x = some (eD k f kvs, r2) ∧ ((penum (kvs.map (·.1))).length ≤ LIM → Q ((penum (kvs.map (·.1))).map (eP eI fun x => kD (k x))) r2 G1)) (hst : starEach [a] X.env = [(false, eval a X.env)] := by rfl) :
    WI X (.Tuple elts kk tpos) (.Call (.Name "enumerate" p0) [a] [] pos) r G Q := fun F0 T F H σ lk S =>
  RunI.of (pi_enumK hg hm (pa_cons peR pa_nil hst) hst) ((h F0 T F H σ lk S).bl.mono fun v H1 ⟨bl, x, r1, G1, F1, e1, S1, k1, kvs, r2, q1, q2⟩ => by
    obtain ⟨Fa, e2, Sa, rp⟩ := S1.fz k1 q1
    obtain ⟨ad, ob, vs, rfl, z1, z2, z3⟩ := rp
    have hl : (kvs.map fun p => k p.1).length = vs.length := by rw [z3.length]; exact z2
    have hl2 : ((kvs.map fun p => k p.1).zip vs).length = kvs.length := by rw [zip_len hl, List.length_map]
    have hlim : kvs.length ≤ LIM := by have := bl.2.2 ad _ (.inr ⟨ob, Sa.bas.fh _ _ z1⟩); rw [hl2] at this; exact this
    have hpl : (penum (kvs.map (·.1))).length = kvs.length := by unfold penum; rw [penumF_len, List.length_map]
    have e9 : enumD 0 ((kvs.map (·.1)).map fun x => kD (k x)) = (penum (kvs.map (·.1))).map (eP eI fun x => kD (k x)) := enum_map _ 0
    rw [← e9] at q2
    refine ⟨ad, ob, _, rfl, Sa.bas.fh _ _ z1, enumD 0 ((kvs.map (·.1)).map fun x => kD (k x)), r2, G1, Fa, e1.trans e2, Sa, fun F H ea eh => ⟨⟨eh _ _ (ea _ _ z1), by rw [enumD_len, hl2, List.length_map, List.length_map]⟩, fun i d hi => ?_⟩, q2 (by rw [hpl]; exact hlim)⟩
    obtain ⟨d', hd, rfl⟩ := enumD_get hi
    rw [List.map_map, List.getElem?_map] at hd
    cases hk : kvs[i]? with
    | none => rw [hk] at hd; cases hd
    | some kv =>
      rw [hk] at hd; cases hd
      have hlt : i < kvs.length := (List.getElem?_eq_some_iff.mp hk).1
      refine ⟨⟨eh _ _ (ea _ _ z1), by rw [hl2]; exact hlt⟩, fun x H' ⟨p, key, y, hx, hp, hH, hy⟩ => .inr ⟨p, _, hp, hH, hx, ?_⟩⟩
      have := (zip_get' hy).1
      rw [List.getElem?_map, hk] at this; cases this
      rw [Nat.zero_add]
      exact rep_pair (none_F eh hp) rfl (kD_rep _))
end

open Out (Rt)
section
variable {X : Cy} {e a b c o tg kx vx elt i : Expr} {es ifs : List Expr} {st : Stmt} {sts rest body orelse : List Stmt} {r : Env2} {G : GD} {pos tpos apos cpos p0 : Pos} {D0 : EndsD} {α β γ σT ρ : Type}
theorem ResOk.newH {K : PySem.W.Frag} {T F : Hp} {G : GD} {H : Hp} {r : Env2} {σ : L2.St} {x : Res} {v : V} {p : Addr} {o : HO} (h : ResOk K T F G H r σ x v) (hp : H p = none) (hx : ∀ i, x ≠ .pk i) : ResOk K T F G (upd H p o) r σ x v := by
  cases x with
  | sh d => exact h
  | fr d =>
    obtain ⟨q, h1, h2, h3⟩ := h
    exact ⟨q, h1, h2.mono (Ex.refl _) fun o' e => by rw [upd_ne (ne_of_none e hp)]; exact e, h3⟩
  | pk i => exact absurd rfl (hx i)
/-- a, b = e1, e2 with names that are cells: by a tuple -/
theorem ws_parT (i j : Nat) {x y : Str} {px py pt : Pos} {kt k2 : Nat} {pt2 : Pos} (hc : X.calm = true) (nd : X.N.Nodup) (hi : X.N[i]? = some x) (hj : X.N[j]? = some y) (hx : L2.Loc X.env.scope x) (hy : L2.Loc X.env.scope y)
    (h : WE X a r G fun z r1 G1 => ∃ z' r2, nz r1 z = some (z', r2) ∧ WE X b r2 G1 fun w r3 G3 => ∃ w' r4, nz r3 w = some (w', r4) ∧ i < r4.length ∧ j < r4.length ∧ D0.nx ((r4.set i (slO z')).set j (slO w')) G3)
    (hfx : X.fn x = true ∨ X.env.scope.names.lookup x = some .local := by first | exact .inl rfl | exact .inr rfl | assumption) (hfy : X.fn y = true ∨ X.env.scope.names.lookup y = some .local := by first | exact .inl rfl | exact .inr rfl | assumption)
    (hn : (assignEach [.Name x px, .Name y py] X.env).length = 2 := by rfl) (hf : (assignEach [.Name x px, .Name y py] X.env).findIdx? (·.1) = none := by rfl)
    (hs : swapsWithSole [.Tuple [.Name x px, .Name y py] kt pt] (.Tuple [a, b] k2 pt2) pos.line X.env = pure false := by rfl) (hw : swappedStores [.Tuple [.Name x px, .Name y py] kt pt] (.Tuple [a, b] k2 pt2) X.env = pure none := by rfl)
    (h1 : (assignEach [.Tuple [.Name x px, .Name y py] kt pt] X.env).map (·.2) = [assign (.Tuple [.Name x px, .Name y py] kt pt) X.env] := by rfl)
    (s1 : starEach [a, b] X.env = (false, eval a X.env) :: starEach [b] X.env := by rfl) (s2 : starEach [b] X.env = (false, eval b X.env) :: starEach [] X.env := by rfl) :
    WS X (.Assign [.Tuple [.Name x px, .Name y py] kt pt] (.Tuple [a, b] k2 pt2) pos) r G D0 := fun F0 T F H σ lk S =>
  RunS.of (ps_asg (pe_tup (pa_cons peR (pa_cons peR pa_nil s2) s1)) (pg_tup hc (pgs_run (ixs := [i, j]) (.cons (pg_name nd hi hx hfx) (.cons (pg_name nd hj hy hfy) .nil)) (fun t ht ts => by
    rcases List.mem_cons.mp ht with z | z
    · subst z; rfl
    · rcases List.mem_cons.mp z with z | z
      · subst z; rfl
      · simp at z)) hn hf) hs hw h1) ((h F0 T F H σ lk S).mono fun v H1 ⟨z, r1, G1, F1, e1, S1, k1, z', r2, q1, q2⟩ => by
    obtain ⟨F2, e2, S2, k2, hz⟩ := S1.nz k1 q1
    obtain ⟨T', tx, S2', hold⟩ := holdT S2 k2 hz
    refine (q2 F0 T' F2 H1 σ (lk.ext tx) S2').mono fun w H3 ⟨u, r3, G3, F3, e3, S3, k3, w', r4, q3, hi', hj', q4⟩ => ?_
    obtain ⟨F4, e4, S4, k4, hz4⟩ := S3.nz k3 q3
    obtain ⟨S5, m1, m2⟩ := hold F4 G3 H3 r4 σ (e3.trans e4) S4
    obtain ⟨m3, m4⟩ := m2 w' w k4
    refine ⟨(by show 2 ≤ sizeLine; decide), fun p hp => ⟨p, [v, w], rfl, .inl (.inl upd_same), rfl, rfl, ?_⟩⟩
    exact ⟨_, G3, F4, ((S5.newH hp).setR (m1.newH hp hz) hi' hz).setR ((m3.newH hp hz4).setR hi' S5.len hz hz4 m4) (by rw [List.length_set]; exact hj') hz4, q4⟩)
/-- a, b, c = e1, e2, e3 with cells -/
theorem ws_parT3 (i j l : Nat) {x y z : Str} {c : Expr} {px py pz pt : Pos} {kt k2 : Nat} {pt2 : Pos} (hc : X.calm = true) (nd : X.N.Nodup) (hi : X.N[i]? = some x) (hj : X.N[j]? = some y) (hl : X.N[l]? = some z) (hx : L2.Loc X.env.scope x) (hy : L2.Loc X.env.scope y) (hz0 : L2.Loc X.env.scope z)
    (h : WE X a r G fun z1 r1 G1 => ∃ z1' r2, nz r1 z1 = some (z1', r2) ∧ WE X b r2 G1 fun w r3 G3 => ∃ w' r4, nz r3 w = some (w', r4) ∧ WE X c r4 G3 fun u r5 G5 => ∃ u' r6, nz r5 u = some (u', r6) ∧ i < r6.length ∧ j < r6.length ∧ l < r6.length ∧ D0.nx (((r6.set i (slO z1')).set j (slO w')).set l (slO u')) G5)
    (hfx : X.fn x = true ∨ X.env.scope.names.lookup x = some .local := by first | exact .inl rfl | exact .inr rfl | assumption) (hfy : X.fn y = true ∨ X.env.scope.names.lookup y = some .local := by first | exact .inl rfl | exact .inr rfl | assumption) (hfz : X.fn z = true ∨ X.env.scope.names.lookup z = some .local := by first | exact .inl rfl | exact .inr rfl | assumption)
    (hn : (assignEach [.Name x px, .Name y py, .Name z pz] X.env).length = 3 := by rfl) (hf : (assignEach [.Name x px, .Name y py, .Name z pz] X.env).findIdx? (·.1) = none := by rfl)
    (hs : swapsWithSole [.Tuple [.Name x px, .Name y py, .Name z pz] kt pt] (.Tuple [a, b, c] k2 pt2) pos.line X.env = pure false := by rfl) (hw : swappedStores [.Tuple [.Name x px, .Name y py, .Name z pz] kt pt] (.Tuple [a, b, c] k2 pt2) X.env = pure none := by rfl)
    (h1 : (assignEach [.Tuple [.Name x px, .Name y py, .Name z pz] kt pt] X.env).map (·.2) = [assign (.Tuple [.Name x px, .Name y py, .Name z pz] kt pt) X.env] := by rfl)
    (s1 : starEach [a, b, c] X.env = (false, eval a X.env) :: starEach [b, c] X.env := by rfl) (s2 : starEach [b, c] X.env = (false, eval b X.env) :: starEach [c] X.env := by rfl) (s3 : starEach [c] X.env = (false, eval c X.env) :: starEach [] X.env := by rfl) :
    WS X (.Assign [.Tuple [.Name x px, .Name y py, .Name z pz] kt pt] (.Tuple [a, b, c] k2 pt2) pos) r G D0 := fun F0 T F H σ lk S =>
  RunS.of (ps_asg (pe_tup (pa_cons peR (pa_cons peR (pa_cons peR pa_nil s3) s2) s1)) (pg_tup hc (pgs_run (ixs := [i, j, l]) (.cons (pg_name nd hi hx hfx) (.cons (pg_name nd hj hy hfy) (.cons (pg_name nd hl hz0 hfz) .nil))) (fun t ht ts => by
    rcases List.mem_cons.mp ht with z | z
    · subst z; rfl
    · rcases List.mem_cons.mp z with z | z
      · subst z; rfl
      · rcases List.mem_cons.mp z with z | z
        · subst z; rfl
        · simp at z)) hn hf) hs hw h1) ((h F0 T F H σ lk S).mono fun v H1 ⟨z1, r1, G1, F1, e1, S1, k1, z1', r2, q1, q2⟩ => by
    obtain ⟨F2, e2, S2, k2, hz⟩ := S1.nz k1 q1
    obtain ⟨T', tx, S2', hold⟩ := holdT S2 k2 hz
    refine (q2 F0 T' F2 H1 σ (lk.ext tx) S2').mono fun w H3 ⟨u, r3, G3, F3, e3, S3, k3, w', r4, q3, q4⟩ => ?_
    obtain ⟨F4, e4, S4, k4, hz4⟩ := S3.nz k3 q3
    obtain ⟨T2, tx2, S4', hold2⟩ := holdT S4 k4 hz4
    refine (q4 F0 T2 F4 H3 σ ((lk.ext tx).ext tx2) S4').mono fun t H5 ⟨u5, r5, G5, F5, e5, S5, k5, u', r6, q5, hi', hj', hl', q6⟩ => ?_
    obtain ⟨F6, e6, S6, k6, hz6⟩ := S5.nz k5 q5
    obtain ⟨S7, n1, n2⟩ := hold2 F6 G5 H5 r6 σ (e5.trans e6) S6
    obtain ⟨n3, n4⟩ := n2 u' t k6
    obtain ⟨S8, m1, m2⟩ := hold F6 G5 H5 r6 σ ((e3.trans e4).trans (e5.trans e6)) S7
    obtain ⟨m3, m4⟩ := m2 w' w n1
    obtain ⟨m5, m6⟩ := m2 u' t n3
    refine ⟨(by show 3 ≤ sizeLine; decide), fun p hp => ⟨p, [v, w, t], rfl, .inl (.inl upd_same), rfl, rfl, ?_⟩⟩
    have A1 := (S8.newH (o := .tup [v, w, t]) hp).setR (m1.newH hp hz) hi' hz
    have A2 := A1.setR ((m3.newH hp hz4).setR hi' S8.len hz hz4 m4) (by rw [List.length_set]; exact hj') hz4
    have A3 := A2.setR (((m5.newH hp hz6).setR hi' S8.len hz hz6 m6).setR (by rw [List.length_set]; exact hj') A1.len hz4 hz6 n4) (by rw [List.length_set, List.length_set]; exact hl') hz6
    exact ⟨_, G5, F6, A3, q6⟩)
/-- {k: v, ..}, typed -/
def WPrT (X : Cy) {κ ν : Type} (k : κ → Key) (f : ν → D) : List Expr → List Expr → Env2 → GD → (List (κ × ν) → Env2 → GD → Prop) → Prop
  | a :: ks, v :: vs, r, G, Q => WE X a r G fun x r1 G1 => ∃ key, x = .sh (kD (k key)) ∧ WE X v r1 G1 fun y r2 G2 => ∃ d r3, fz r2 y = some (f d, r3) ∧ WPrT X k f ks vs r3 G2 fun ps r4 G4 => Q ((key, d) :: ps) r4 G4
  | _, _, r, G, Q => Q [] r G
theorem wpr_nil {κ ν : Type} {k : κ → Key} {f : ν → D} {Q : List (κ × ν) → Env2 → GD → Prop} (q : Q [] r G) : WPrT X k f [] [] r G Q := q
theorem wpr_cons {κ ν : Type} {k : κ → Key} {f : ν → D} {v : Expr} {ks vs : List Expr} {Q : List (κ × ν) → Env2 → GD → Prop} (h : WE X a r G fun x r1 G1 => ∃ key, x = .sh (kD (k key)) ∧ WE X v r1 G1 fun y r2 G2 => ∃ d r3, fz r2 y = some (f d, r3) ∧ WPrT X k f ks vs r3 G2 fun ps r4 G4 => Q ((key, d) :: ps) r4 G4) : WPrT X k f (a :: ks) (v :: vs) r G Q := h
theorem wpr_of {κ ν : Type} {k : κ → Key} {f : ν → D} : ∀ (ks vs : List Expr) {r : Env2} {G : GD} {Q : List (κ × ν) → Env2 → GD → Prop} {Q' : List (Key × D) → Env2 → GD → Prop}, WPrT X k f ks vs r G Q → (∀ kvs r G, Q kvs r G → Q' (eDl k f kvs) r G) → WPr X ks vs r G Q'
  | [], [], _, _, _, _, h, m => m [] _ _ h
  | [], _ :: _, _, _, _, _, h, m => m [] _ _ h
  | _ :: _, [], _, _, _, _, h, m => m [] _ _ h
  | a :: ks, v :: vs, r, G, Q, Q', h, m => (show WE X a r G _ from h).mono fun x r1 G1 ⟨key, hx, h1⟩ => ⟨k key, hx, h1.mono fun y r2 G2 ⟨d, r3, e, h2⟩ => ⟨f d, r3, e, wpr_of ks vs h2 fun kvs r G q => m _ r G q⟩⟩
section
variable {κ ν : Type} [DecidableEq κ] {k : κ → Key} {f : ν → D} {a1 a2 a3 v1 v2 v3 : Expr} {Q : Res → Env2 → GD → Prop}
theorem we_dispT1 (hk : KInj k) (h : WPrT X k f [a1] [v1] r G fun kvs r1 G1 => Q (.fr (eD k f (dmk kvs))) r1 G1) : WE X (.Dict [some a1] [v1] pos) r G Q :=
  we_disp1 (wpr_of _ _ h fun kvs r G q => disp_of hk kvs (P := fun d => Q (.fr d) r G) q)
theorem we_dispT2 (hk : KInj k) (h : WPrT X k f [a1, a2] [v1, v2] r G fun kvs r1 G1 => Q (.fr (eD k f (dmk kvs))) r1 G1) : WE X (.Dict [some a1, some a2] [v1, v2] pos) r G Q :=
  we_disp2 (wpr_of _ _ h fun kvs r G q => disp_of hk kvs (P := fun d => Q (.fr d) r G) q)
theorem we_dispT3 (hk : KInj k) (h : WPrT X k f [a1, a2, a3] [v1, v2, v3] r G fun kvs r1 G1 => Q (.fr (eD k f (dmk kvs))) r1 G1) : WE X (.Dict [some a1, some a2, some a3] [v1, v2, v3] pos) r G Q :=
  we_disp3 (wpr_of _ _ h fun kvs r G q => disp_of hk kvs (P := fun d => Q (.fr d) r G) q)
end
/-- d.get(k, x), typed -/
theorem we_dgetT {κ ν : Type} [DecidableEq κ] {k : κ → Key} {f : ν → D} (hk : KInj k) (hu : X.A.units + 64 < cLine) {Q : Res → Env2 → GD → Prop}
    (h : WE X o r G fun x r1 G1 => ∃ kvs, VwR r1 G1 x (eD k f kvs) ∧ WE X a r1 G1 fun y r2 G2 => ∃ key, y = .sh (kD (k key)) ∧ WE X b r2 G2 fun z r3 G3 => ∃ d r4 kvs, fz r3 z = some (f d, r4) ∧ VwR r4 G3 x (eD k f kvs) ∧ Q (.sh (f ((dget kvs key).getD d))) r4 G3)
    (base : attributeBase o "get" X.env (eval o X.env) = eval o X.env := by rfl)
    (few : ((backTo cpos (starEach [a, b] X.env)).all (fun x => !x.1) && (backToKw cpos (keywordEach [] X.env)).all (fun x => x.1.isSome) && decide (([a, b] : List Expr).length + ([] : List Keyword).length + (if ([] : List Keyword).isEmpty then 0 else 1) < 30)) = true := by rfl)
    (line : (apos.endLine == cpos.line) = true := by rfl) (trees : backTo cpos (starEach [a, b] X.env) = [(false, eval a X.env), (false, eval b X.env)] := by rfl) : WE X (.Call (.Attribute o "get" apos) [a, b] [] cpos) r G Q :=
  we_dget2 hk hu (h.mono fun x r1 G1 ⟨kvs, q1, h1⟩ => ⟨kvs, q1, h1.mono fun y r2 G2 ⟨key, q2, h2⟩ => ⟨key, q2, h2.mono fun z r3 G3 ⟨d, r4, kvs, q3, q4, q5⟩ => ⟨f d, r4, kvs, q3, q4, by
    cases hd : dget kvs key with
    | none => rw [hd] at q5; exact q5
    | some v => rw [hd] at q5; exact q5⟩⟩⟩) base few line trees
theorem we_dgetN {κ ν : Type} [DecidableEq κ] {k : κ → Key} {f : ν → D} (hk : KInj k) (hu : X.A.units + 64 < cLine) {Q : Res → Env2 → GD → Prop}
    (h : WE X o r G fun x r1 G1 => ∃ kvs, VwR r1 G1 x (eD k f kvs) ∧ WE X a r1 G1 fun y r2 G2 => ∃ key, y = .sh (kD (k key)) ∧ WE X b r2 G2 fun z r3 G3 => ∃ r4 kvs, fz r3 z = some (.non, r4) ∧ VwR r4 G3 x (eD k f kvs) ∧ Q (.sh (eO f (dget kvs key))) r4 G3)
    (base : attributeBase o "get" X.env (eval o X.env) = eval o X.env := by rfl)
    (few : ((backTo cpos (starEach [a, b] X.env)).all (fun x => !x.1) && (backToKw cpos (keywordEach [] X.env)).all (fun x => x.1.isSome) && decide (([a, b] : List Expr).length + ([] : List Keyword).length + (if ([] : List Keyword).isEmpty then 0 else 1) < 30)) = true := by rfl)
    (line : (apos.endLine == cpos.line) = true := by rfl) (trees : backTo cpos (starEach [a, b] X.env) = [(false, eval a X.env), (false, eval b X.env)] := by rfl) : WE X (.Call (.Attribute o "get" apos) [a, b] [] cpos) r G Q :=
  we_dget2 hk hu (h.mono fun x r1 G1 ⟨kvs, q1, h1⟩ => ⟨kvs, q1, h1.mono fun y r2 G2 ⟨key, q2, h2⟩ => ⟨key, q2, h2.mono fun z r3 G3 ⟨r4, kvs, q3, q4, q5⟩ => ⟨.non, r4, kvs, q3, q4, by
    cases hd : dget kvs key with
    | none => rw [hd] at q5; exact q5
    | some v => rw [hd] at q5; exact q5⟩⟩⟩) base few line trees
end

open Out (Rt)
section
variable {X : Cy} {e a b c o tg kx vx elt i : Expr} {es ifs : List Expr} {st : Stmt} {sts rest body orelse : List Stmt} {r : Env2} {G : GD} {pos tpos apos cpos p0 : Pos} {D0 : EndsD} {α β γ σT ρ : Type}
/-! ### the script of draws -/
theorem ints_rep {K : PySem.W.Frag} {F : Hp} : ∀ (ns : List Int), RepL K F (ns.map D.int) (ns.map V.int)
  | [] => rfl
  | n :: ns => ⟨_, _, rfl, rfl, ints_rep ns⟩
theorem Vw.scr {K : PySem.W.Frag} {F H : Hp} (ex : Ex F H) {ns : List Int} {v : V} (h : Vw K F H (.scr ns) v) : ∃ a, v = .ref a ∧ SqL K H a (ns.map V.int) := by
  rcases h with ⟨a, h1, h2⟩ | ⟨_, _, h⟩
  · exact ⟨a, h1, ex.sqL h2⟩
  · exact h.elim
theorem c_lenR {ns : List Int} {Q : Res → Prop} (q : Q (.sh (.int (ns.length : Nat)))) : CallW1 X (.builtin "len") (.scr ns) Q :=
  c1_flat (d' := .int (ns.length : Nat)) (v' := .int (ns.length : Nat)) (fun _ _ => rfl) (fun F H v ex h => by
    obtain ⟨p, rfl, k1⟩ := h.scr ex
    exact ⟨_, call_len_seq, fun P hp => ⟨p, _, rfl, .inl k1, by rw [List.length_map]; exact hp⟩⟩) q
theorem c_listR {ns : List Int} {Q : Res → Prop} (q : Q (.fr (.lst (ns.map D.int)))) : CallW1 X (.type "list") (.scr ns) Q := fun F0 T F G H r σ v S hv => by
  obtain ⟨p, rfl, k1⟩ := hv.scr S.bas.fh
  exact ⟨_, call_list_of, p, _, rfl, .inl k1, fun l hl => new_lst S (ints_rep ns) hl q⟩
theorem wi_scr {Q : List D → Env2 → GD → Prop} (h : WE X e r G fun x r1 G1 => ∃ ns r2, fz r1 x = some (.scr ns, r2) ∧ Q (ns.map D.int) r2 G1) : WI X tg e r G Q := fun F0 T F H σ lk S =>
  RunI.of (pi_list peR) ((h F0 T F H σ lk S).mono fun v H1 ⟨x, r1, G1, F1, e1, S1, k1, ns, r2, q1, q2⟩ => by
    obtain ⟨Fa, e2, Sa, rp⟩ := S1.fz k1 q1
    obtain ⟨a, rfl, z1⟩ := rp
    refine ⟨a, rfl, ⟨_, Sa.bas.fh.sqL z1⟩, ns.map D.int, r2, G1, Fa, e1.trans e2, Sa, fun F H ea eh => ⟨⟨_, eh.sqL (ea.sqL z1), by rw [List.length_map, List.length_map]; exact Nat.le_refl _⟩, fun i d hi => ?_⟩, q2⟩
    rw [List.getElem?_map] at hi
    cases hn : ns[i]? with
    | none => rw [hn] at hi; cases hi
    | some n =>
      rw [hn] at hi; cases hi
      exact ⟨⟨_, .int n, eh.sqL (ea.sqL z1), by rw [List.getElem?_map, hn]; rfl⟩, fun x H' ⟨y1, y2⟩ => .inl ⟨y1, by
        have := y2 _ (eh.sqL (ea.sqL z1))
        rw [List.getElem?_map, hn] at this; cases this; rfl⟩⟩)
end
instance instRgOk (a b : Int) : Decidable (RgOk a b) := by unfold RgOk; infer_instance
/-- the def that makes the box -/
def FBegun (m : List Int → Bx) : FSp := fun ds G post _ => ∃ ns, ds = [.scr ns] ∧ ∀ b g, g ≠ b → G b = none → G g = none → post (.sh (.adr b)) (bxG G b g (m ns))
/-- a law: the script in, a truth value out; nothing is said of the open region behind it -/
def FLaw (f : List Int → Out Bool) : FSp := fun ds _ post _ => ∃ ns, ds = [.scr ns] ∧ (f ns).sat (fun v => ∀ G', post (.sh (.bl v)) G') (fun _ => False)

open Out (Rt)
/-! ### data that _law_alike may meet: of depth n, no list too long -/
def alB : Nat → D → Bool
  | _, .non => true
  | _, .bl _ => true
  | _, .int _ => true
  | _, .str _ => true
  | n + 1, .tup ds => decide (ds.length ≤ LIM) && ds.all (alB n)
  | n + 1, .lst ds => decide (ds.length ≤ LIM) && ds.all (alB n)
  | _, _ => false
def alikeF (n : Nat) : FSp := fun ds G post _ => ∃ d, ds = [d, d] ∧ alB n d = true ∧ post (.sh (.bl true)) G

open Out (Rt)
/-- membership, by the items' own equality -/
def memB {α : Type} [DecidableEq α] (x : α) (xs : List α) : Bool := decide (x ∈ xs)
/-! ### in, of flat items -/
structure FlC {α : Type} (en : α → D) (vf : α → V) : Prop where
  rep : ∀ (K : PySem.W.Frag) (F : Hp) (a : α) (v : V), Rep K F (en a) v → v = vf a
  nown : ∀ (K : PySem.W.Frag) (F H : Hp) (p : Addr) (a : α), ¬ Own K F H p (en a)
  flat : ∀ a, flatV (vf a) = true
  eq : ∀ a b, eqV (vf a) (vf b) = true ↔ a = b
section
variable {X : Cy} {α : Type} [DecidableEq α] {en : α → D} {vf : α → V}
theorem FlC.vw (h : FlC en vf) {K : PySem.W.Frag} {F H : Hp} {a : α} {v : V} (hv : Vw K F H (en a) v) : v = vf a := by
  rcases hv with z | ⟨p, _, z⟩
  · exact h.rep K F a v z
  · exact (h.nown K F H p a z).elim
theorem FlC.all (h : FlC en vf) {K : PySem.W.Frag} {F : Hp} : ∀ {xs : List α} {vs : List V}, RepL K F (xs.map en) vs → vs = xs.map vf
  | [], _, e => e
  | x :: xs, _, ⟨v, r, e1, e2, e3⟩ => by subst e1; rw [h.rep K F x v e2, h.all e3]; rfl
theorem FlC.inV (h : FlC en vf) (x : α) : ∀ xs : List α, L2.inV (vf x) (xs.map vf) = decide (x ∈ xs)
  | [] => by simp [L2.inV]
  | y :: xs => by
    have ih := h.inV x xs
    unfold L2.inV at ih ⊢
    rw [List.map_cons, List.any_cons, ih]
    by_cases e : x = y
    · subst e; rw [(h.eq x x).mpr rfl]; simp
    · have : eqV (vf y) (vf x) = false := by
        cases q : eqV (vf y) (vf x) with
        | false => rfl
        | true => exact absurd ((h.eq y x).mp q).symm e
      rw [this]; simp [e]
theorem FlC.flats (h : FlC en vf) (xs : List α) : (xs.map vf).all flatV = true := by
  induction xs with
  | nil => rfl
  | cons x xs ih => rw [List.map_cons, List.all_cons, ih, h.flat]; rfl
theorem t_inF (h : FlC en vf) (x : α) (xs : List α) {Q : Res → Prop} (q : Q (.sh (.bl (memB x xs)))) : OpW X (compareOp .In) (en x) (.lst (xs.map en)) Q :=
  opw_flat (d := .bl (decide (x ∈ xs))) (v := .bl (decide (x ∈ xs))) (fun _ _ => rfl) (fun F H va vb ex h1 h2 => by
    obtain ⟨p, vs, rfl, k1, k2⟩ := h2.lst ex
    cases h.vw h1
    cases h.all k2
    exact ⟨_, op_in_seq, fun P hp => ⟨p, _, rfl, .inl (.inl k1), h.flat x, h.flats xs, by rw [if_neg Bool.false_ne_true, h.inV]; exact hp⟩⟩) q
theorem t_inFT (h : FlC en vf) (x : α) (xs : List α) {Q : Res → Prop} (q : Q (.sh (.bl (memB x xs)))) : OpW X (compareOp .In) (en x) (.tup (xs.map en)) Q :=
  opw_flat (d := .bl (decide (x ∈ xs))) (v := .bl (decide (x ∈ xs))) (fun _ _ => rfl) (fun F H va vb ex h1 h2 => by
    obtain ⟨p, vs, rfl, k1, k2⟩ := h2.tup ex
    cases h.vw h1
    cases h.all k2
    exact ⟨_, op_in_seq, fun P hp => ⟨p, _, rfl, .inr k1, h.flat x, h.flats xs, by rw [if_neg Bool.false_ne_true, h.inV]; exact hp⟩⟩) q
theorem t_ninF (h : FlC en vf) (x : α) (xs : List α) {Q : Res → Prop} (q : Q (.sh (.bl (!memB x xs)))) : OpW X (compareOp .NotIn) (en x) (.lst (xs.map en)) Q :=
  opw_flat (d := .bl (!decide (x ∈ xs))) (v := .bl (!decide (x ∈ xs))) (fun _ _ => rfl) (fun F H va vb ex h1 h2 => by
    obtain ⟨p, vs, rfl, k1, k2⟩ := h2.lst ex
    cases h.vw h1
    cases h.all k2
    exact ⟨_, op_notIn_seq, fun P hp => ⟨p, _, rfl, .inl (.inl k1), h.flat x, h.flats xs, by rw [if_pos rfl, h.inV]; exact hp⟩⟩) q
theorem t_ninFT (h : FlC en vf) (x : α) (xs : List α) {Q : Res → Prop} (q : Q (.sh (.bl (!memB x xs)))) : OpW X (compareOp .NotIn) (en x) (.tup (xs.map en)) Q :=
  opw_flat (d := .bl (!decide (x ∈ xs))) (v := .bl (!decide (x ∈ xs))) (fun _ _ => rfl) (fun F H va vb ex h1 h2 => by
    obtain ⟨p, vs, rfl, k1, k2⟩ := h2.tup ex
    cases h.vw h1
    cases h.all k2
    exact ⟨_, op_notIn_seq, fun P hp => ⟨p, _, rfl, .inr k1, h.flat x, h.flats xs, by rw [if_pos rfl, h.inV]; exact hp⟩⟩) q
theorem t_inM {n : Nat} (h : EqC en n) (hu : X.A.units + 65 < cLine) (x : α) (xs : List α) {Q : Res → Prop} (q : Q (.sh (.bl (memB x xs)))) (hn : n + 1 ≤ 64 := by decide) : OpW X (compareOp .In) (en x) (.lst (xs.map en)) Q := t_inD h hu x xs q hn
theorem t_ninM {n : Nat} (h : EqC en n) (hu : X.A.units + 65 < cLine) (x : α) (xs : List α) {Q : Res → Prop} (q : Q (.sh (.bl (!memB x xs)))) (hn : n + 1 ≤ 64 := by decide) : OpW X (compareOp .NotIn) (en x) (.lst (xs.map en)) Q := t_ninD h hu x xs q hn
end
theorem flc_str : FlC eZ (fun s => V.str s.1) := ⟨fun _ _ _ _ h => h, fun _ _ _ _ _ h => h, fun _ => rfl, fun a b => by
  show (a.1 == b.1) = true ↔ a = b
  rw [beq_iff_eq]
  exact ⟨Subtype.ext, fun h => by rw [h]⟩⟩
theorem flc_optS : FlC (eO eZ) (fun o => match o with | none => V.non | some s => V.str s.1) := ⟨fun K F a v h => by
    cases a with
    | none => exact h
    | some s => exact h, fun K F H p a h => by
    cases a with
    | none => exact h
    | some s => exact h, fun a => by cases a <;> rfl, fun a b => by
    cases a with
    | none => cases b with
      | none => exact ⟨fun _ => rfl, fun _ => rfl⟩
      | some s => exact ⟨fun h => (by cases h), fun h => (by cases h)⟩
    | some s => cases b with
      | none => exact ⟨fun h => (by cases h), fun h => (by cases h)⟩
      | some t =>
        show (s.1 == t.1) = true ↔ some s = some t
        rw [beq_iff_eq]
        exact ⟨fun h => by rw [Subtype.ext h], fun h => by cases h; rfl⟩⟩

open Out (Rt)
section
variable {X : Cy} {e a b c o tg kx vx elt i : Expr} {es ifs : List Expr} {st : Stmt} {sts rest body orelse : List Stmt} {r : Env2} {G : GD} {pos tpos apos cpos p0 : Pos} {D0 : EndsD} {α β γ σT ρ : Type}
theorem opw_fdivE {Q : Res → Prop} {i j : Int} (hc : 0 < j ∧ j < 2 ^ 200) (q : Q (.sh (.int (i / j)))) : OpW X (binaryOp .FloorDiv) (.int i) (.int j) Q :=
  opw_flat (d := .int (i / j)) (v := .int (i / j)) (fun _ _ => rfl) (fun F H va vb _ h1 h2 => ⟨_, op_fdivW, fun P p => ⟨i, j, h1.int, h2.int, wide_div (b := 200) hc.1 (by have := hc.2; have := hc.1; omega) (by decide) (by decide), p⟩⟩) q
/-! ### many targets, from as many values -/
/-- results that are held together -/
def NzL (K : PySem.W.Frag) (T F : Hp) (G : GD) (H : Hp) (r : Env2) (σ : L2.St) : List Res → List V → Prop
  | [], vs => vs = []
  | z :: zs, vs => ∃ v us, vs = v :: us ∧ ResOk K T F G H r σ z v ∧ (∀ i, z ≠ .pk i) ∧ (∀ z2 v2, (z2, v2) ∈ zs.zip us → ∀ d d2, z = .fr d → z2 = .fr d2 → v ≠ v2) ∧ NzL K T F G H r σ zs us
theorem NzL.len {K : PySem.W.Frag} {T F : Hp} {G : GD} {H : Hp} {r : Env2} {σ : L2.St} : ∀ {zs : List Res} {vs : List V}, NzL K T F G H r σ zs vs → vs.length = zs.length
  | [], _, h => by rw [show _ = [] from h]; rfl
  | _ :: _, _, ⟨v, us, e, _, _, _, h⟩ => by rw [e, List.length_cons, List.length_cons, h.len]
theorem NzL.mem {K : PySem.W.Frag} {T F : Hp} {G : GD} {H : Hp} {r : Env2} {σ : L2.St} : ∀ {zs : List Res} {vs : List V}, NzL K T F G H r σ zs vs → ∀ z v, (z, v) ∈ zs.zip vs → ResOk K T F G H r σ z v ∧ ∀ i, z ≠ .pk i
  | [], _, _, z, v, hm => by simp at hm
  | _ :: _, _, ⟨v0, us, e, h1, h2, _, h⟩, z, v, hm => by
    subst e
    rw [List.zip_cons_cons, List.mem_cons] at hm
    rcases hm with hm | hm
    · cases hm; exact ⟨h1, h2⟩
    · exact h.mem z v hm
theorem NzL.map {K : PySem.W.Frag} {T T' F : Hp} {G : GD} {H : Hp} {r : Env2} {σ : L2.St} (f : ∀ z v, ResOk K T F G H r σ z v → ResOk K T' F G H r σ z v) : ∀ {zs : List Res} {vs : List V}, NzL K T F G H r σ zs vs → NzL K T' F G H r σ zs vs
  | [], _, h => h
  | _ :: _, _, ⟨v, us, e, h1, h2, h3, h⟩ => ⟨v, us, e, f _ _ h1, h2, h3, h.map f⟩
theorem NzL.newH {K : PySem.W.Frag} {T F : Hp} {G : GD} {H : Hp} {r : Env2} {σ : L2.St} {p : Addr} {o : HO} (hp : H p = none) : ∀ {zs : List Res} {vs : List V}, NzL K T F G H r σ zs vs → NzL K T F G (upd H p o) r σ zs vs
  | [], _, h => h
  | _ :: _, _, ⟨v, us, e, h1, h2, h3, h⟩ => ⟨v, us, e, h1.newH hp h2, h2, h3, h.newH hp⟩
theorem NzL.setR {K : PySem.W.Frag} {T F : Hp} {G : GD} {H : Hp} {r : Env2} {σ : L2.St} {z : Res} {v : V} {i : Nat} (hi : i < r.length) (hl : r.length = σ.length) (hz : ∀ i, z ≠ .pk i) : ∀ {zs : List Res} {vs : List V}, (∀ z2 v2, (z2, v2) ∈ zs.zip vs → ∀ d d2, z = .fr d → z2 = .fr d2 → v ≠ v2) → NzL K T F G H r σ zs vs → NzL K T F G H (r.set i (slO z)) (σ.set i (some v)) zs vs
  | [], _, _, h => h
  | z2 :: zs, _, hd, ⟨v2, us, e, h1, h2, h3, h⟩ => by
    subst e
    exact ⟨v2, us, rfl, h1.setR hi hl hz h2 (hd z2 v2 (by simp)), h2, h3, h.setR hi hl hz fun z3 v3 hm => hd z3 v3 (by rw [List.zip_cons_cons]; exact List.mem_cons_of_mem _ hm)⟩
theorem setAllR {K : PySem.W.Frag} {F0 T F : Hp} {G : GD} {H : Hp} : ∀ (ixs : List Nat) (zs : List Res) (vs : List V) (r : Env2) (σ : L2.St), Sta K F0 T F G H r σ → NzL K T F G H r σ zs vs → (∀ i, i ∈ ixs → i < r.length) → Sta K F0 T F G H ((ixs.zip zs).foldl (fun r p => r.set p.1 (slO p.2)) r) ((ixs.zip vs).foldl (fun s p => s.set p.1 (some p.2)) σ)
  | [], _, _, r, σ, S, _, _ => by simpa using S
  | i :: ixs, [], _, r, σ, S, h, _ => by rw [show _ = [] from h]; simpa using S
  | i :: ixs, z :: zs, _, r, σ, S, ⟨v, us, e, h1, h2, h3, h⟩, hi => by
    subst e
    rw [List.zip_cons_cons, List.zip_cons_cons, List.foldl_cons, List.foldl_cons]
    have hl := hi i List.mem_cons_self
    exact setAllR ixs zs us _ _ (S.setR h1 hl h2) (h.setR hl S.len h2 h3) fun j hj => by rw [List.length_set]; exact hi j (List.mem_cons_of_mem _ hj)
def WN (X : Cy) (es : List Expr) (r : Env2) (G : GD) (Q : List Res → Env2 → GD → Prop) : Prop :=
  ∀ (F0 T F H : Hp) (σ : L2.St), Lk X F0 T → Sta X.K F0 T F G H r σ → RunA X es σ H fun vs H' => ∃ zs r' G' F', Ex F F' ∧ Sta X.K F0 T F' G' H' r' σ ∧ NzL X.K T F' G' H' r' σ zs vs ∧ Q zs r' G'
theorem wn_nil {Q : List Res → Env2 → GD → Prop} (q : Q [] r G) : WN X [] r G Q := fun F0 T F H σ lk S => RunA.of pa_nil ⟨[], r, G, F, Ex.refl _, S, rfl, q⟩
theorem wn_cons {Q : List Res → Env2 → GD → Prop} (h : WE X a r G fun z r1 G1 => ∃ z' r2, nz r1 z = some (z', r2) ∧ WN X es r2 G1 fun zs r3 G3 => Q (z' :: zs) r3 G3) (hs : starEach (a :: es) X.env = (false, eval a X.env) :: starEach es X.env := by rfl) : WN X (a :: es) r G Q := fun F0 T F H σ lk S =>
  RunA.of (pa_cons peR paR hs) ((h F0 T F H σ lk S).mono fun v H1 ⟨z, r1, G1, F1, e1, S1, k1, z', r2, q1, q2⟩ => by
    obtain ⟨F2, e2, S2, k2, hz⟩ := S1.nz k1 q1
    obtain ⟨T', tx, S2', hold⟩ := holdT S2 k2 hz
    refine (q2 F0 T' F2 H1 σ (lk.ext tx) S2').mono fun ws H3 ⟨zs, r3, G3, F3, e3, S3, k3, q3⟩ => ?_
    obtain ⟨S4, m1, m2⟩ := hold F3 G3 H3 r3 σ e3 S3
    exact ⟨z' :: zs, r3, G3, F3, (e1.trans e2).trans e3, S4, ⟨v, ws, rfl, m1, hz, fun z2 v2 hm => (m2 z2 v2 (k3.mem z2 v2 hm).1).2, k3.map fun z2 v2 k => (m2 z2 v2 k).1⟩, q3⟩)
/-- a, b, .. = e1, e2, .. by a tuple -/
theorem ws_parN {ts : List Expr} {kt k2 : Nat} {pt pt2 : Pos} (ixs : List Nat) (hc : X.calm = true) (hp : All2 (fun t i => PG X t (gName i)) ts ixs) (hst : ∀ t ∈ ts, ∀ us, (assignEach (t :: us) X.env).map (·.2) = assign t X.env :: (assignEach us X.env).map (·.2))
    (h : WN X es r G fun zs r1 G1 => zs.length = ixs.length ∧ zs.length ≤ 100 ∧ (∀ i, i ∈ ixs → i < r1.length) ∧ D0.nx ((ixs.zip zs).foldl (fun r p => r.set p.1 (slO p.2)) r1) G1)
    (hn : (assignEach ts X.env).length = ixs.length := by rfl) (hf : (assignEach ts X.env).findIdx? (·.1) = none := by rfl)
    (hs : swapsWithSole [.Tuple ts kt pt] (.Tuple es k2 pt2) pos.line X.env = pure false := by rfl) (hw : swappedStores [.Tuple ts kt pt] (.Tuple es k2 pt2) X.env = pure none := by rfl)
    (h1 : (assignEach [.Tuple ts kt pt] X.env).map (·.2) = [assign (.Tuple ts kt pt) X.env] := by rfl) :
    WS X (.Assign [.Tuple ts kt pt] (.Tuple es k2 pt2) pos) r G D0 := fun F0 T F H σ lk S =>
  RunS.of (ps_asg (pe_tup paR) (pg_tup hc (pgs_run hp hst) hn hf) hs hw h1) ((h F0 T F H σ lk S).mono fun vs H1 ⟨zs, r1, G1, F1, e1, S1, k1, q1, q2, q3, q4⟩ => by
    refine ⟨(by rw [k1.len]; show _ ≤ 16777216; omega), fun p hp => ⟨p, vs, rfl, .inl (.inl upd_same), by rw [k1.len]; exact q1, by rw [k1.len]; exact q1, ?_⟩⟩
    exact ⟨_, G1, F1, setAllR ixs zs vs r1 σ (S1.newH hp) (k1.newH hp) q3, q4⟩)
theorem all_lt {ixs : List Nat} {n : Nat} {r : Env2} (h : r.length = n) (k : ixs.all (fun i => decide (i < n)) = true) : ∀ i, i ∈ ixs → i < r.length := fun i hi => by
  have := List.all_eq_true.mp k i hi
  rw [h]; simpa using this
/-! ### targets within targets -/
def RunGs (X : Cx) (ts : List Expr) : TGs := fun vs σ H Q => ∀ (pins : List (Addr × Obj)) (s : Shared) (us : List Value), Inv X pins σ H s → Vals vs us → wpAny (model X.prog X.w) X.A (assignInOrder ((assignEach ts X.env).map (·.2)) us) (fun _ s' => ∃ σ' H', Inv X pins σ' H' s' ∧ Q σ' H') X.xe s
theorem pgsR {X : Cx} {ts : List Expr} : PGs X ts (RunGs X ts) := ⟨fun pins s σ H vs us Q I rv h => h pins s us I rv⟩
theorem RunGs.of {X : Cx} {ts : List Expr} {t : TGs} {vs : List V} {σ : L2.St} {H : Hp} {Q : L2.St → Hp → Prop} (h : PGs X ts t) (k : t vs σ H Q) : RunGs X ts vs σ H Q := fun pins s us I rv => h.run pins s σ H vs us Q I rv k
theorem RunG.of {X : Cx} {tg : Expr} {t : TG} {v : V} {σ : L2.St} {H : Hp} {Q : L2.St → Hp → Prop} (h : PG X tg t) (k : t v σ H Q) : RunG X tg v σ H Q := fun pins s u I rv => h.run pins s σ H v u Q I rv k
theorem RunG.mono {X : Cx} {tg : Expr} {v : V} {σ : L2.St} {H : Hp} {Q Q' : L2.St → Hp → Prop} (h : RunG X tg v σ H Q) (k : ∀ σ' H', Q σ' H' → Q' σ' H') : RunG X tg v σ H Q' := fun pins s u I rv => wpAny_mono (h pins s u I rv) (fun _ _ ⟨σ', H', I', q⟩ => ⟨σ', H', I', k σ' H' q⟩) fun _ _ x => x
theorem RunGs.mono {X : Cx} {ts : List Expr} {vs : List V} {σ : L2.St} {H : Hp} {Q Q' : L2.St → Hp → Prop} (h : RunGs X ts vs σ H Q) (k : ∀ σ' H', Q σ' H' → Q' σ' H') : RunGs X ts vs σ H Q' := fun pins s us I rv => wpAny_mono (h pins s us I rv) (fun _ _ ⟨σ', H', I', q⟩ => ⟨σ', H', I', k σ' H' q⟩) fun _ _ x => x
def WGs (X : Cy) (ts : List Expr) (ds : List D) (r : Env2) (G : GD) (is : List Nat) (Q : Env2 → GD → Prop) : Prop :=
  ∀ (F0 T F H : Hp) (σ : L2.St) (vs : List V), Lk X F0 T → Sta X.K F0 T F G H r σ → RepL X.K F ds vs → RunGs X ts vs σ H (fun σ' H' => wipe σ' is = wipe σ is ∧ ∃ r' G' F', Ex F F' ∧ Sta X.K F0 T F' G' H' r' σ' ∧ Q r' G')
theorem wgs_nil {is : List Nat} {Q : Env2 → GD → Prop} (q : Q r G) : WGs X [] [] r G is Q := fun F0 T F H σ vs lk S rp => RunGs.of pgs_nil ⟨rp, rfl, r, G, F, Ex.refl _, S, q⟩
theorem wgs_cons {t : Expr} {ts : List Expr} {d : D} {ds : List D} {is : List Nat} {Q : Env2 → GD → Prop} (h : WG X t d r G is fun r1 G1 => WGs X ts ds r1 G1 is Q)
    (hs : (assignEach (t :: ts) X.env).map (·.2) = assign t X.env :: (assignEach ts X.env).map (·.2) := by rfl) : WGs X (t :: ts) (d :: ds) r G is Q := fun F0 T F H σ vs lk S rp => by
  obtain ⟨v, us, rfl, r1, r2⟩ := rp
  refine RunGs.of (pgs_cons pgR pgsR hs) ⟨v, us, rfl, (h F0 T F H σ v lk S r1).mono fun σ1 H1 ⟨w1, r', G', F1, e1, S1, q1⟩ => ?_⟩
  exact (q1 F0 T F1 H1 σ1 us lk S1 (RepL.mono e1 _ _ r2)).mono fun σ2 H2 ⟨w2, r2, G2, F2, e2, S2, q2⟩ => ⟨w2.trans w1, r2, G2, F2, e1.trans e2, S2, q2⟩
theorem wg_tupN {ts : List Expr} {k : Nat} {ds : List D} {is : List Nat} {Q : Env2 → GD → Prop} (hc : X.calm = true) (h : WGs X ts ds r G is Q)
    (hn : (assignEach ts X.env).length = ds.length := by rfl) (hf : (assignEach ts X.env).findIdx? (·.1) = none := by rfl) : WG X (.Tuple ts k pos) (.tup ds) r G is Q := fun F0 T F H σ v lk S rp => by
  obtain ⟨a, vs, rfl, z1, z2⟩ := rp
  exact RunG.of (pg_tup hc pgsR hn hf) ⟨a, vs, rfl, S.bas.fh.sqT z1, z2.length, h F0 T F H σ vs lk S z2⟩
/-- target = frozen data -/
theorem ws_asgG (is : List Nat) (h : WE X e r G fun x r1 G1 => ∃ d r2, fz r1 x = some (d, r2) ∧ WG X tg d r2 G1 is fun r3 G3 => D0.nx r3 G3)
    (hs : swapsWithSole [tg] e pos.line X.env = pure false := by rfl) (hw : swappedStores [tg] e X.env = pure none := by rfl)
    (h1 : (assignEach [tg] X.env).map (·.2) = [assign tg X.env] := by rfl) : WS X (.Assign [tg] e pos) r G D0 := fun F0 T F H σ lk S =>
  RunS.of (ps_asg peR pgR hs hw h1) ((h F0 T F H σ lk S).mono fun v H1 ⟨x, r1, G1, F1, e1, S1, k1, d, r2, q1, q2⟩ => by
    obtain ⟨F2, e2, S2, rp⟩ := S1.fz k1 q1
    exact (q2 F0 T F2 H1 σ v lk S2 rp).mono fun σ' H' ⟨_, r', G', F', e', S', q'⟩ => ⟨r', G', F', S', q'⟩)
end

open Out (Rt)
section
variable {X : Cy} {e a b c o tg kx vx elt i : Expr} {es ifs : List Expr} {st : Stmt} {sts rest body orelse : List Stmt} {r : Env2} {G : GD} {pos tpos apos cpos p0 : Pos} {D0 : EndsD} {α β γ σT ρ : Type}
/-! ### an own object is shared ahead of an expression -/
theorem we_frzS (i : Nat) {d : D} {Q : Res → Env2 → GD → Prop} (hi : r[i]? = some (.own d)) (hD : isDic d = false) (h : WE X e (r.set i (.sh d)) G Q) : WE X e r G Q := fun F0 T F H σ lk S => by
  obtain ⟨F', k1, k2, _⟩ := S.frzSlot hD hi
  exact (h F0 T F' H σ lk k2).mono fun v H1 ⟨x, r1, G1, F1, e1, S1, q⟩ => ⟨x, r1, G1, F1, k1.trans e1, S1, q⟩
theorem we_lockS (i : Nat) {ks : List Key} {ds : List D} {Q : Res → Env2 → GD → Prop} (hi : r[i]? = some (.own (.dic ks ds))) (h : WE X e (r.set i (.sh (.dic ks ds))) G Q) : WE X e r G Q := fun F0 T F H σ lk S pins s I => by
  obtain ⟨p, vs, z1, z2, hz⟩ := S.lockSlot hi
  obtain ⟨o, I2⟩ := I.lock z1 (by first | trivial | exact .inl rfl | decide)
  obtain ⟨F', ef, S2, rp⟩ := hz o
  exact wpAny_mono (h F0 T F' _ σ lk S2 pins s I2) (fun u s' ⟨v, H', I', rv, x, r1, G1, F1, e1, S1, q⟩ => ⟨v, H', I', rv, x, r1, G1, F1, ef.trans e1, S1, q⟩) fun _ _ x => x
/-! ### ranges with a step -/
/-- lo, lo + c, .. as long as it is on this side of hi -/
def rgS (lo hi c : Int) : List Int := (List.range (Builtin.Range.rangeSize lo hi c).toNat).map fun i => lo + (i : Nat) * c
theorem rgS_get {lo hi c : Int} {i : Nat} {x : Int} (h : (rgS lo hi c)[i]? = some x) : i < (Builtin.Range.rangeSize lo hi c).toNat ∧ x = lo + (i : Nat) * c := by
  unfold rgS at h
  rw [List.getElem?_map] at h
  cases q : (List.range (Builtin.Range.rangeSize lo hi c).toNat)[i]? with
  | none => rw [q] at h; cases h
  | some j =>
    rw [q] at h
    obtain ⟨z1, z2⟩ := List.getElem?_eq_some_iff.mp q
    rw [List.length_range] at z1
    rw [List.getElem_range] at z2
    subst z2
    exact ⟨z1, by simpa using h.symm⟩
theorem rgS_len (lo hi c : Int) : (rgS lo hi c).length = (Builtin.Range.rangeSize lo hi c).toNat := by unfold rgS; rw [List.length_map, List.length_range]
theorem itd_rangeS {K : PySem.W.Frag} {Fa : Hp} {lo hi c : Int} {n : Nat} (hn : n = (Builtin.Range.rangeSize lo hi c).toNat) : ItD K (Itc lo c n) Fa ((rgS lo hi c).map D.int) := fun F H ea eh =>
  ⟨by rw [List.length_map, rgS_len, ← hn]; exact Nat.le_refl _, fun i d hd => by
    rw [List.getElem?_map] at hd
    cases q : (rgS lo hi c)[i]? with
    | none => rw [q] at hd; cases hd
    | some x =>
      rw [q] at hd
      obtain ⟨z1, rfl⟩ := rgS_get q
      cases hd
      exact ⟨by rw [hn]; exact z1, fun y H' ⟨y1, y2⟩ => .inl ⟨y1, y2⟩⟩⟩
instance instRgC (i j c : Int) (n : Nat) : Decidable (RgC i j c n) := by unfold RgC; infer_instance
theorem wi_rng3 {Q : List D → Env2 → GD → Prop} (hg : Gl X "range") (hm : X.mg "range" = none)
    (h : WE X a r G fun x r1 G1 => WE X b r1 G1 fun y r2 G2 => WE X c r2 G2 fun z r3 G3 => ∃ lo n k, vw r3 x = some (.int lo) ∧ vw r3 y = some (.int n) ∧ vw r3 z = some (.int k) ∧ RgC lo n k (Builtin.Range.rangeSize lo n k).toNat ∧ Q ((rgS lo n k).map D.int) r3 G3)
    (s1 : starEach [a, b, c] X.env = (false, eval a X.env) :: starEach [b, c] X.env := by rfl) (s2 : starEach [b, c] X.env = (false, eval b X.env) :: starEach [c] X.env := by rfl) (s3 : starEach [c] X.env = (false, eval c X.env) :: starEach [] X.env := by rfl) (hpl : (backTo pos (starEach [b, c] X.env)).any (fun x => x.1) = false := by rfl) : WI X tg (.Call (.Name "range" p0) [a, b, c] [] pos) r G Q := fun F0 T F H σ lk S =>
  RunI.of (pi_range3 hg hm (pa_cons peR (pa_cons peR (pa_cons peR pa_nil s3) s2) s1) s1 hpl) ((h F0 T F H σ lk S).mono fun v H1 ⟨x, r1, G1, F1, e1, S1, k1, h1⟩ => by
    obtain ⟨F1', e1', S1', hv⟩ := hold S1 k1
    refine (h1 F0 T F1' H1 σ lk S1').mono fun v2 H2 ⟨y, r2, G2, F2, e2, S2, k2, h2⟩ => ?_
    obtain ⟨F2', e2', S2', hv2⟩ := hold S2 k2
    refine (h2 F0 T F2' H2 σ lk S2').mono fun v3 H3 ⟨z, r3, G3, F3, e3, S3, k3, lo, n, k, q1, q2, q3, hr, q4⟩ => ?_
    exact ⟨lo, n, k, _, by rw [(hv F3 G3 H3 r3 _ ((e2.trans e2').trans e3) S3 (.inl q1)).int, (hv2 F3 G3 H3 r3 _ e3 S3 (.inl q2)).int, (S3.view k3 q3).int], hr, _, r3, G3, F3, (((e1.trans e1').trans e2).trans e2').trans e3, S3, itd_rangeS rfl, q4⟩)
end

open Out (Rt)
/-! ### the order of data -/
theorem Room.u65 {k : Nat} {A : Around} (r : Room k A) : A.units + 65 < cLine := by have := r.un; omega
structure OrC {α : Type} (en : α → D) (n : Nat) : Prop where
  eqc : EqC en n
  al : ∀ a b, PySem.W.alike (toP (en a)) (toP (en b)) = true
  nn : ∀ a, toP (en a) ≠ .none
  dp : ∀ a, (toP (en a)).depth ≤ n
section
variable {α β γ : Type}
def ltC (en : α → D) (a b : α) : Bool := PySem.W.dataLt (toP (en a)) (toP (en b))
def leC (en : α → D) (a b : α) : Bool := !ltC en b a
def dsort (en : α → D) (xs : List α) : List α := xs.mergeSort (leC en)
def dmin (en : α → D) : List α → Option α
  | [] => none
  | x :: xs => some (xs.foldl (fun a y => if ltC en y a = true then y else a) x)
def dmax (en : α → D) : List α → Option α
  | [] => none
  | x :: xs => some (xs.foldl (fun a y => if ltC en a y = true then y else a) x)
theorem orc_int : OrC eI 0 := ⟨eqc_int, fun _ _ => rfl, (fun _ h => nomatch h), fun a => (by show PyData.depth (toP (eI a)) ≤ 0; simp [toP, PyData.depth])⟩
theorem orc_bool : OrC eB 0 := ⟨eqc_bool, fun _ _ => rfl, (fun _ h => nomatch h), fun a => (by show PyData.depth (toP (eB a)) ≤ 0; simp [toP, PyData.depth])⟩
theorem orc_str : OrC eZ 0 := ⟨eqc_str, fun _ _ => rfl, (fun _ h => nomatch h), fun a => (by show PyData.depth (toP (eZ a)) ≤ 0; simp [toP, PyData.depth])⟩
theorem OrC.up {f : α → D} {n m : Nat} (h : OrC f n) (hm : n ≤ m) : OrC f m := ⟨h.eqc.up hm, h.al, h.nn, fun a => Nat.le_trans (h.dp a) hm⟩
theorem orc_pair {f : α → D} {g : β → D} {n : Nat} (h : OrC f n) (k : OrC g n) : OrC (eP f g) (n + 1) := by
  refine ⟨eqc_pair h.eqc k.eqc, fun a b => ?_, (fun _ z => nomatch z), fun a => ?_⟩
  · show PySem.W.alike (.tuple [toP (f a.1), toP (g a.2)]) (.tuple [toP (f b.1), toP (g b.2)]) = true
    simp [PySem.W.alike, PySem.W.alikeAll, h.al, k.al]
  · show PyData.depth (.tuple [toP (f a.1), toP (g a.2)]) ≤ n + 1
    have h1 := h.dp a.1
    have h2 := k.dp a.2
    simp [PyData.depth, PyData.depthAll]; omega
theorem orc_trip {f : α → D} {g : β → D} {k : γ → D} {n : Nat} (h : OrC f n) (h2 : OrC g n) (h3 : OrC k n) : OrC (eP3 f g k) (n + 1) := by
  refine ⟨eqc_trip h.eqc h2.eqc h3.eqc, fun a b => ?_, (fun _ z => nomatch z), fun a => ?_⟩
  · show PySem.W.alike (.tuple [toP (f a.1), toP (g a.2.1), toP (k a.2.2)]) (.tuple [toP (f b.1), toP (g b.2.1), toP (k b.2.2)]) = true
    simp [PySem.W.alike, PySem.W.alikeAll, h.al, h2.al, h3.al]
  · show PyData.depth (.tuple [toP (f a.1), toP (g a.2.1), toP (k a.2.2)]) ≤ n + 1
    have h1 := h.dp a.1
    have h2 := h2.dp a.2.1
    have h3 := h3.dp a.2.2
    simp [PyData.depth, PyData.depthAll]; omega
theorem alike_all {f : α → D} {n : Nat} (h : OrC f n) : ∀ xs ys : List α, PySem.W.alikeAll (toPs (xs.map f)) (toPs (ys.map f)) = true
  | [], _ => by simp [toPs, PySem.W.alikeAll]
  | _ :: _, [] => by simp [toPs, PySem.W.alikeAll]
  | x :: xs, y :: ys => by
    show PySem.W.alikeAll (toP (f x) :: toPs (xs.map f)) (toP (f y) :: toPs (ys.map f)) = true
    rw [PySem.W.alikeAll, h.al, alike_all h xs ys]; rfl
theorem depth_all {f : α → D} {n : Nat} (h : OrC f n) : ∀ xs : List α, PyData.depthAll (toPs (xs.map f)) ≤ n
  | [] => by simp [toPs, PyData.depthAll]
  | x :: xs => by
    show PyData.depthAll (toP (f x) :: toPs (xs.map f)) ≤ n
    have h1 := h.dp x
    have h2 := depth_all h xs
    simp [PyData.depthAll]; omega
theorem orc_tup {f : α → D} {n : Nat} (h : OrC f n) : OrC (eT f) (n + 1) := by
  refine ⟨eqc_tup h.eqc, fun a b => ?_, (fun _ z => nomatch z), fun a => ?_⟩
  · show PySem.W.alike (.tuple (toPs (a.map f))) (.tuple (toPs (b.map f))) = true
    rw [PySem.W.alike]; exact alike_all h a b
  · show PyData.depth (.tuple (toPs (a.map f))) ≤ n + 1
    have := depth_all h a
    simp [PyData.depth]; omega
theorem orc_lst {f : α → D} {n : Nat} (h : OrC f n) : OrC (eL f) (n + 1) := by
  refine ⟨eqc_lst h.eqc, fun a b => ?_, (fun _ z => nomatch z), fun a => ?_⟩
  · show PySem.W.alike (.list (toPs (a.map f))) (.list (toPs (b.map f))) = true
    rw [PySem.W.alike]; exact alike_all h a b
  · show PyData.depth (.list (toPs (a.map f))) ≤ n + 1
    have := depth_all h a
    simp [PyData.depth]; omega
end
/-! ### <, >, <=, >= -/
section
variable {X : Cx}
def rCmpD (K : PySem.W.Frag) (g : PyData → PyData → Bool) : R2 := fun x y H Q => ∃ d e, Dp K H x d ∧ Dp K H y e ∧ PySem.W.alike d e = true ∧ d ≠ .none ∧ d.depth ≤ 60 ∧ Q (.bl (g d e)) H
theorem op_ltD (hu : X.A.units + 64 < cLine) : OpR X (compareOp .Lt) (rCmpD X.K fun d e => PySem.W.dataLt d e) := by
  intro pins s σ H x y v u Q I rx ry h
  obtain ⟨d, e, hd, he, sd, se, dp, q⟩ := h
  obtain ⟨as, r1⟩ := Dp.reads I d x v hd rx
  obtain ⟨bs, r2⟩ := Dp.reads I e y u he ry
  exact PySem.W.lt_data r1 r2 sd se (by omega) ⟨.bl _, H, I, rfl, q⟩
theorem op_gtD (hu : X.A.units + 64 < cLine) : OpR X (compareOp .Gt) (rCmpD X.K fun d e => PySem.W.dataLt e d) := by
  intro pins s σ H x y v u Q I rx ry h
  obtain ⟨d, e, hd, he, sd, se, dp, q⟩ := h
  obtain ⟨as, r1⟩ := Dp.reads I d x v hd rx
  obtain ⟨bs, r2⟩ := Dp.reads I e y u he ry
  exact PySem.W.gt_data r1 r2 sd se (by omega) ⟨.bl _, H, I, rfl, q⟩
theorem op_leD (hu : X.A.units + 64 < cLine) : OpR X (compareOp .LtE) (rCmpD X.K fun d e => !PySem.W.dataLt e d) := by
  intro pins s σ H x y v u Q I rx ry h
  obtain ⟨d, e, hd, he, sd, se, dp, q⟩ := h
  obtain ⟨as, r1⟩ := Dp.reads I d x v hd rx
  obtain ⟨bs, r2⟩ := Dp.reads I e y u he ry
  exact PySem.W.le_data r1 r2 sd se (by omega) ⟨.bl _, H, I, rfl, q⟩
theorem op_geD (hu : X.A.units + 64 < cLine) : OpR X (compareOp .GtE) (rCmpD X.K fun d e => !PySem.W.dataLt d e) := by
  intro pins s σ H x y v u Q I rx ry h
  obtain ⟨d, e, hd, he, sd, se, dp, q⟩ := h
  obtain ⟨as, r1⟩ := Dp.reads I d x v hd rx
  obtain ⟨bs, r2⟩ := Dp.reads I e y u he ry
  exact PySem.W.ge_data r1 r2 sd se (by omega) ⟨.bl _, H, I, rfl, q⟩
end
section
variable {X : Cy} {α : Type} {en : α → D} {n : Nat} {Q : Res → Prop}
theorem OrC.dpv (h : OrC en n) {K : PySem.W.Frag} {F H : Hp} (ex : Ex F H) {a : α} {v : V} (hv : Vw K F H (en a) v) : Dp K H v (toP (en a)) := okD.dp ex n _ _ (h.eqc.ok a) hv
theorem opw_ltC (h : OrC en n) (hu : X.A.units + 64 < cLine) (a b : α) (q : Q (.sh (.bl (ltC en a b)))) (hn : n ≤ 60 := by decide) : OpW X (compareOp .Lt) (en a) (en b) Q :=
  opw_flat (d := .bl (ltC en a b)) (v := .bl (ltC en a b)) (fun _ _ => rfl) (fun F H va vb ex h1 h2 => ⟨_, op_ltD hu, fun P p => ⟨_, _, h.dpv ex h1, h.dpv ex h2, h.al a b, h.nn a, Nat.le_trans (h.dp a) hn, p⟩⟩) q
theorem opw_gtC (h : OrC en n) (hu : X.A.units + 64 < cLine) (a b : α) (q : Q (.sh (.bl (ltC en b a)))) (hn : n ≤ 60 := by decide) : OpW X (compareOp .Gt) (en a) (en b) Q :=
  opw_flat (d := .bl (ltC en b a)) (v := .bl (ltC en b a)) (fun _ _ => rfl) (fun F H va vb ex h1 h2 => ⟨_, op_gtD hu, fun P p => ⟨_, _, h.dpv ex h1, h.dpv ex h2, h.al a b, h.nn a, Nat.le_trans (h.dp a) hn, p⟩⟩) q
theorem opw_leC (h : OrC en n) (hu : X.A.units + 64 < cLine) (a b : α) (q : Q (.sh (.bl (leC en a b)))) (hn : n ≤ 60 := by decide) : OpW X (compareOp .LtE) (en a) (en b) Q :=
  opw_flat (d := .bl (leC en a b)) (v := .bl (leC en a b)) (fun _ _ => rfl) (fun F H va vb ex h1 h2 => ⟨_, op_leD hu, fun P p => ⟨_, _, h.dpv ex h1, h.dpv ex h2, h.al a b, h.nn a, Nat.le_trans (h.dp a) hn, p⟩⟩) q
theorem opw_geC (h : OrC en n) (hu : X.A.units + 64 < cLine) (a b : α) (q : Q (.sh (.bl (leC en b a)))) (hn : n ≤ 60 := by decide) : OpW X (compareOp .GtE) (en a) (en b) Q :=
  opw_flat (d := .bl (leC en b a)) (v := .bl (leC en b a)) (fun _ _ => rfl) (fun F H va vb ex h1 h2 => ⟨_, op_geD hu, fun P p => ⟨_, _, h.dpv ex h1, h.dpv ex h2, h.al a b, h.nn a, Nat.le_trans (h.dp a) hn, p⟩⟩) q
end
/-! ### sorted -/
section
variable {α : Type}
/-- sorted(xs), xs a list that reads as data -/
def rSortedD (K : PySem.W.Frag) {β : Type} (enc : β → PyData) : List V → Hp → VK → Prop := fun vs H Q => ∃ (a : Addr) (xs : List V) (bs : List β) (P : V → β → Prop), vs = [V.ref a] ∧ SqL K H a xs ∧ Paired P xs bs ∧ (∀ x b, P x b → Dp K H x (enc b)) ∧ PySem.W.AllAlike (bs.map enc) ∧ PySem.W.Sortable (bs.map enc) ∧ (∀ b ∈ bs, (enc b).depth ≤ 60) ∧
  ∀ ys p, Paired P ys (bs.mergeSort (PySem.W.dataLe false enc)) → H p = none → Q (.ref p) (upd H p (.lst ys))
theorem each_of {β : Type} {P : V → β → Prop} : ∀ {xs : List V} {us : List Value} {bs : List β}, Vals xs us → Paired P xs bs → PySem.W.EachIs (fun u b => ∃ x, RelV x u ∧ P x b) us bs
  | _, _, _, .nil, .nil => .nil
  | _, _, _, .cons r rs, .cons p ps => .cons ⟨_, r, p⟩ (each_of rs ps)
theorem of_each {β : Type} {P : V → β → Prop} : ∀ {us : List Value} {bs : List β}, PySem.W.EachIs (fun u b => ∃ x, RelV x u ∧ P x b) us bs → ∃ xs, Vals xs us ∧ Paired P xs bs
  | _, _, .nil => ⟨[], .nil, .nil⟩
  | _, _, .cons ⟨x, r, p⟩ t => by
    obtain ⟨xs, h1, h2⟩ := of_each t
    exact ⟨x :: xs, .cons r h1, .cons p h2⟩
theorem cr_sortedD {X : Cx} {β : Type} {enc : β → PyData} (hu : X.A.units + 64 < cLine) : CallR X (.builtin "sorted") (rSortedD X.K enc) := by
  intro pins s σ H vs us Q I r h
  obtain ⟨a, xs, bs, P, rfl, hs, hP, hx, hal, hso, hdp, q⟩ := h
  obtain ⟨its, rv, hl, hz⟩ := I.list hs
  obtain ⟨u, rfl, ru⟩ := vals1 r
  obtain rfl : u = Value.ref a := ru
  have e := each_of rv hP
  have er : PySem.W.EachIs (fun u b => ∃ as, Reads s.heap u (enc b) as) its bs := e.mono fun u b ⟨x, rx, hp⟩ => Dp.reads I _ x u (hx x b hp) rx
  refine PySem.W.sorted_data (enc := enc) hl.isList e er hal hso (by rw [← e.length, ← rv.length]; exact hz) (fun b hb => by have := hdp b hb; omega) fun out ho hout => ?_
  obtain ⟨ys, v1, v2⟩ := of_each hout
  obtain ⟨k, hk⟩ := sortedAll_at s.heap its out.toArray
  refine ⟨.ref (s.heap.objs.size + 1), upd H (s.heap.objs.size + 1) (.lst ys), I.laid (t' := s.toks) (fun b o e => sortedAll_old e) (Nat.le_succ _) ⟨?_, out, k, v1, hk⟩, rfl, q ys _ v2 (I.hok.fresh (Nat.le_succ _))⟩
  rw [v1.length, ho, ← e.length, ← rv.length]; exact hz
end

open Out (Rt)
section
variable {X : Cy} {α : Type} {en : α → D} {n : Nat} {Q : Res → Prop}
theorem repl_paired {K : PySem.W.Frag} {F : Hp} : ∀ {xs : List α} {vs : List V}, RepL K F (xs.map en) vs → Paired (fun v a => Rep K F (en a) v) vs xs
  | [], _, h => by rw [show _ = [] from h]; exact .nil
  | x :: xs, _, ⟨v0, vs', e, h1, h2⟩ => by subst e; exact .cons h1 (repl_paired h2)
theorem paired_repl {K : PySem.W.Frag} {F : Hp} : ∀ {xs : List α} {vs : List V}, Paired (fun v a => Rep K F (en a) v) vs xs → RepL K F (xs.map en) vs
  | [], _, .nil => rfl
  | x :: xs, _, .cons h t => ⟨_, _, rfl, h, paired_repl t⟩
theorem leC_data : PySem.W.dataLe false (fun a : α => toP (en a)) = leC en := by
  funext a b
  rw [PySem.W.dataLe_eq]
  rfl
/-- sorted(xs) of data -/
theorem t_sortedC (h : OrC en n) (hu : X.A.units + 64 < cLine) (xs : List α) (hso : PySem.W.Sortable (xs.map fun a => toP (en a))) (q : Q (.fr (.lst ((dsort en xs).map en)))) (hn : n ≤ 60 := by decide) : CallW1 X (.builtin "sorted") (.lst (xs.map en)) Q := fun F0 T F G H r σ v S hv => by
  obtain ⟨p, vs, rfl, h1, h2⟩ := hv.lst S.bas.fh
  refine ⟨_, cr_sortedD (enc := fun a : α => toP (en a)) hu, p, vs, xs, _, rfl, .inl h1, repl_paired h2, fun x a rp => h.dpv S.bas.fh (.inl rp), PySem.W.AllAlike.of h.al, hso, fun a _ => Nat.le_trans (h.dp a) hn, fun ys l hy hl => ?_⟩
  rw [leC_data] at hy
  exact new_lst S (paired_repl hy) hl q
theorem so_pair {β : Type} {f : α → D} {g : β → D} (xs : List (α × β)) : PySem.W.Sortable (xs.map fun a => toP (eP f g a)) := PySem.W.Sortable.tuples fun a => ⟨_, _, rfl⟩
theorem so_trip {β γ : Type} {f : α → D} {g : β → D} {k : γ → D} (xs : List (α × β × γ)) : PySem.W.Sortable (xs.map fun a => toP (eP3 f g k a)) := PySem.W.Sortable.tuples fun a => ⟨_, _, rfl⟩
theorem so_lst {f : α → D} (xs : List (List α)) : PySem.W.Sortable (xs.map fun a => toP (eL f a)) := PySem.W.Sortable.others fun a => ⟨(fun z => nomatch z), fun _ z => nomatch z⟩
theorem so_tup {f : α → D} {xs : List (List α)} (h : xs.all (fun x => !x.isEmpty) = true) : PySem.W.Sortable (xs.map fun a => toP (eT f a)) := .inl fun d hd => by
  obtain ⟨a, ha, rfl⟩ := List.mem_map.mp hd
  have := List.all_eq_true.mp h a ha
  cases a with
  | nil => cases this
  | cons y ys => exact ⟨toP (f y), toPs (ys.map f), rfl⟩
end
/-! ### min, max of data -/
def rBestD (K : PySem.W.Frag) {β : Type} (enc : β → PyData) (best : β → List β → β) : List V → Hp → VK → Prop := fun vs H Q => ∃ (a : Addr) (xs : List V) (b : β) (bs : List β) (P : V → β → Prop), vs = [V.ref a] ∧ SqL K H a xs ∧ Paired P xs (b :: bs) ∧ (∀ x b, P x b → Dp K H x (enc b)) ∧ PySem.W.AlikeAll ((b :: bs).map enc) ∧ PyData.depthAll ((b :: bs).map enc) ≤ 60 ∧ (∀ b b', enc b = enc b' → b = b') ∧
  ∀ v, P v (best b bs) → Q v H
theorem each_at {β : Type} {R : Value → β → Prop} : ∀ {us : List Value} {bs : List β}, PySem.W.EachIs R us bs → ∀ (i : Nat) (u : Value), us[i]? = some u → ∃ b, R u b
  | _, _, .nil, i, u, h => by simp at h
  | _, _, .cons h t, 0, u, e => by
    rw [List.getElem?_cons_zero] at e
    cases e; exact ⟨_, h⟩
  | _, _, .cons h t, i + 1, u, e => each_at t i u (by simpa using e)
theorem min_fold {β : Type} {enc : β → PyData} : ∀ (bs : List β) (b : β), (bs.map enc).foldl (fun a y => if PySem.W.dataLt y a = true then y else a) (enc b) = enc (bs.foldl (fun a y => if PySem.W.dataLt (enc y) (enc a) = true then y else a) b)
  | [], b => rfl
  | y :: bs, b => by
    rw [List.map_cons, List.foldl_cons, List.foldl_cons]
    by_cases h : PySem.W.dataLt (enc y) (enc b) = true
    · rw [if_pos h, if_pos h]; exact min_fold bs y
    · rw [if_neg h, if_neg h]; exact min_fold bs b
theorem max_fold {β : Type} {enc : β → PyData} : ∀ (bs : List β) (b : β), (bs.map enc).foldl (fun a y => if PySem.W.dataLt a y = true then y else a) (enc b) = enc (bs.foldl (fun a y => if PySem.W.dataLt (enc a) (enc y) = true then y else a) b)
  | [], b => rfl
  | y :: bs, b => by
    rw [List.map_cons, List.foldl_cons, List.foldl_cons]
    by_cases h : PySem.W.dataLt (enc b) (enc y) = true
    · rw [if_pos h, if_pos h]; exact max_fold bs y
    · rw [if_neg h, if_neg h]; exact max_fold bs b
theorem cr_minD {X : Cx} {β : Type} {enc : β → PyData} (hc : X.calm = true) (hu : X.A.units + 64 < cLine) : CallR X (.builtin "min") (rBestD X.K enc fun b bs => bs.foldl (fun a y => if PySem.W.dataLt (enc y) (enc a) = true then y else a) b) := by
  intro pins s σ H vs us Q I r h
  obtain ⟨a, xs, b, bs, P, rfl, hs, hP, hx, hal, hdp, hinj, q⟩ := h
  obtain ⟨its, rv, hl, hz⟩ := I.list hs
  obtain ⟨u, rfl, ru⟩ := vals1 r
  obtain rfl : u = Value.ref a := ru
  have e := each_of rv hP
  have er : PySem.W.EachIs (fun u b => ∃ as, Reads s.heap u (enc b) as) its (b :: bs) := e.mono fun u b ⟨x, rx, hp⟩ => Dp.reads I _ x u (hx x b hp) rx
  obtain ⟨as, hr⟩ := PySem.W.each_readsAll enc er
  refine PySem.W.min_list_data (vs := its.toArray) (I.ok.hd hc) hl.isList (x := enc b) (xs := bs.map enc) (by simpa using hr) hal (by have : PyData.depthAll (enc b :: bs.map enc) ≤ 60 := hdp; omega) fun i v h' tk cs hv hrd hk => ?_
  obtain ⟨b', x, rx, hp⟩ := each_at e i v (by simpa using hv)
  obtain ⟨as2, r2⟩ := Dp.reads I _ x v (hx x b' hp) rx
  have e1 := (PySem.Reads.unique (Reads.keeps hk r2) _ _ hrd).1
  unfold PySem.W.minD at e1
  rw [min_fold] at e1
  have e2 := hinj _ _ e1
  exact ⟨x, H, I.kept (t' := tk) fun b o e => hk b o e, rx, q x (by rw [e2] at hp; exact hp)⟩
section
variable {X : Cy} {α : Type} {en : α → D} {n : Nat} {Q : Res → Prop}
theorem toP_inj (h : EqC en n) {a b : α} (e : toP (en a) = toP (en b)) : a = b := (h.eq a b).mp (by unfold eqD; rw [e]; exact (h.eq b b).mpr rfl)
theorem depth_allP (h : OrC en n) : ∀ xs : List α, PyData.depthAll (xs.map fun a => toP (en a)) ≤ n
  | [] => by simp [PyData.depthAll]
  | x :: xs => by
    show PyData.depthAll (toP (en x) :: xs.map fun a => toP (en a)) ≤ n
    have h1 := h.dp x
    have h2 := depth_allP h xs
    simp [PyData.depthAll]; omega
theorem t_minC (h : OrC en n) (hc : X.calm = true) (hu : X.A.units + 64 < cLine) {xs : List α} {m : α} (hm : dmin en xs = some m) (q : Q (.sh (en m))) (hn : n ≤ 60 := by decide) : CallW1 X (.builtin "min") (.lst (xs.map en)) Q := fun F0 T F G H r σ v S hv => by
  obtain ⟨p, vs, rfl, h1, h2⟩ := hv.lst S.bas.fh
  cases xs with
  | nil => cases hm
  | cons x xs =>
    cases hm
    refine ⟨_, cr_minD (enc := fun a : α => toP (en a)) hc hu, p, vs, x, xs, _, rfl, .inl h1, repl_paired h2, fun x a rp => h.dpv S.bas.fh (.inl rp), ⟨fun a ha b hb => ?_, fun a ha => ?_⟩, Nat.le_trans (depth_allP h (x :: xs)) hn, fun a b e => toP_inj h.eqc e, fun v hv => ⟨.sh (en _), F, Ex.refl _, S, hv, q⟩⟩
    · obtain ⟨a', _, rfl⟩ := List.mem_map.mp ha
      obtain ⟨b', _, rfl⟩ := List.mem_map.mp hb
      exact h.al a' b'
    · obtain ⟨a', _, rfl⟩ := List.mem_map.mp ha
      exact h.nn a'
end

open Out (Rt)
section
variable {X : Cy} {e a b c o tg kx vx elt i : Expr} {es ifs : List Expr} {st : Stmt} {sts rest body orelse : List Stmt} {r : Env2} {G : GD} {pos tpos apos cpos p0 : Pos} {D0 : EndsD} {α β γ σT ρ : Type}
theorem ws_augS (i : Nat) {x : Str} {n : Int} {pos' : Pos} (hN : X.N.Nodup) (hi : X.N[i]? = some x) (hx : Loc X.env.scope x) (hr : r[i]? = some (.sh (.int n))) (h : WE X e r G fun y r1 G1 => i < r1.length ∧ ∃ m, vw r1 y = some (.int m) ∧ D0.nx (r1.set i (.sh (.int (n - m)))) G1)
    (hf : X.fn x = true ∨ X.env.scope.names.lookup x = some .local := by first | exact .inl rfl | exact .inr rfl | assumption) : WS X (.AugAssign (.Name x pos') .Sub e pos) r G D0 := fun F0 T F H σ lk S =>
  RunS.of (ps_aug hN hi hx peR ip_sub hf) (by
    obtain ⟨v, h1, h2⟩ := S.slot hr
    cases (show v = .int n from h2)
    refine ⟨.int n, h1, (h F0 T F H σ lk S).mono fun v H1 ⟨y, r1, G1, F1, e1, S1, k1, hi', m, q1, q2⟩ => ?_⟩
    exact ⟨n, m, rfl, (S1.view k1 q1).int, r1.set i (.sh (.int (n - m))), G1, F1, S1.set hi' ⟨_, rfl, rfl⟩ (fun d' z => nomatch z), q2⟩)
theorem we_ifB (en : α → D) (gg : σT → GD) {Q : Res → Env2 → GD → Prop}
    (h : WT X c r G fun d r1 G1 => ∃ (β : Type) (ma mb : Out (α × σT)) (f : α × σT → Out β) (Q0 : β → Prop) (E : Xm → Prop), ((if d = true then ma else mb).bind f).sat Q0 E ∧ (d = true → ∀ Q' : α × σT → Prop, ma.sat Q' E → WE X a r1 G1 fun x r2 G2 => ∃ v, x = .sh (en v.1) ∧ r2 = r1 ∧ G2 = gg v.2 ∧ Q' v) ∧
      (d = false → ∀ Q' : α × σT → Prop, mb.sat Q' E → WE X b r1 G1 fun x r2 G2 => ∃ v, x = .sh (en v.1) ∧ r2 = r1 ∧ G2 = gg v.2 ∧ Q' v) ∧ ∀ v, (f v).sat Q0 E → Q (.sh (en v.1)) r1 (gg v.2)) : WE X (.IfExp c a b pos) r G Q :=
  we_ifExp (h.mono fun d r1 G1 ⟨β, ma, mb, f, Q0, E, h0, h1, h2, q⟩ => ⟨fun hd => by
    rw [if_pos hd] at h0
    exact (h1 hd _ (Out.sb h0)).mono fun x r2 G2 ⟨v, m1, m2, m3, m4⟩ => by subst m1 m2 m3; exact q v m4, fun hd => by
    rw [if_neg (by rw [hd]; exact Bool.false_ne_true)] at h0
    exact (h2 hd _ (Out.sb h0)).mono fun x r2 G2 ⟨v, m1, m2, m3, m4⟩ => by subst m1 m2 m3; exact q v m4⟩)
end

open Out (Rt)
/-! ### the second kind of a box of draws: a state, the cells, an index -/
abbrev Bh := { x : List Int × Int × Int // x.1.length ≤ 63 }
def bxH (G0 : GD) (b g : Addr) (x : Bh) : GD := updG (updG G0 g (.lst (x.1.1.map D.int))) b (.lst [.int x.1.2.1, .adr g, .int x.1.2.2])
def FBh {A R : Type} (en : A → List D) (er : R → Res) (f : A → Bh → Out (R × Bh)) : FSp := fun ds G post _ => ∃ (a : A) (G0 : GD) (b g : Addr) (x : Bh), g ≠ b ∧ ds = .adr b :: en a ∧ G = bxH G0 b g x ∧ (f a x).sat (fun v => post (er v.1) (bxH G0 b g v.2)) (fun _ => False)
theorem bxH_b {G0 : GD} {b g : Addr} {x : Bh} : bxH G0 b g x b = some (.lst [.int x.1.2.1, .adr g, .int x.1.2.2]) := updG_same
theorem bxH_g {G0 : GD} {b g : Addr} {x : Bh} (h : g ≠ b) : bxH G0 b g x g = some (.lst (x.1.1.map D.int)) := by unfold bxH; rw [updG_ne h, updG_same]
theorem bxH_setB {G0 : GD} {b g : Addr} {x : Bh} {st ix : Int} : updG (bxH G0 b g x) b (.lst [.int st, .adr g, .int ix]) = bxH G0 b g ⟨(x.1.1, st, ix), x.2⟩ := by
  unfold bxH
  funext a
  by_cases h : a = b
  · subst h; rw [updG_same, updG_same]
  · rw [updG_ne h, updG_ne h, updG_ne h]
theorem bxH_setG {G0 : GD} {b g : Addr} {x : Bh} {ns : List Int} (hl : ns.length ≤ 63) (h : g ≠ b) : updG (bxH G0 b g x) g (.lst (ns.map D.int)) = bxH G0 b g ⟨(ns, x.1.2), hl⟩ := by
  unfold bxH
  funext a
  by_cases h1 : a = g
  · subst h1; rw [updG_same, updG_ne h, updG_same]
  · rw [updG_ne h1]
    by_cases h2 : a = b
    · subst h2; rw [updG_same, updG_same]
    · rw [updG_ne h2, updG_ne h1, updG_ne h2, updG_ne h1]
/-- the def that makes it -/
def FMix (m : (ns : List Int) → ns.length ≤ 63 → Int → Bh) : FSp := fun ds G post _ => ∃ (ns : List Int) (seed : Int) (h : ns.length ≤ 63), ds = [.scr ns, .int seed] ∧ ∀ b g, g ≠ b → G b = none → G g = none → post (.sh (.adr b)) (bxH G b g (m ns h seed))

open Out (Rt)
section
variable {X : Cy} {e a b c o tg kx vx elt : Expr} {es ifs : List Expr} {st : Stmt} {sts rest body orelse : List Stmt} {r : Env2} {G : GD} {pos tpos apos cpos p0 : Pos} {D0 : EndsD} {α β γ σT ρ : Type}
/-- while, with a return on some way -/
theorem wb_whlR (n : Nat) (env : σT → Env2) (gg : σT → GD) (er : ρ → Res) (gr : ρ → GD) (s0 : σT) (hp : PassesOwn (model X.prog X.w) X.A X.env X.xe) {cc : σT → Out Bool} {f : σT → Out (Rt σT ρ)} {kk : Rt σT ρ → Out β} {Q : β → Prop} {E : Xm → Prop} (w0 : Wk r (env s0)) (hg : G = gg s0) (h0 : ((Out.whlR cc f n s0).bind kk).sat Q E)
    (hc : ∀ (s : σT) (Q' : Bool → Prop), (cc s).sat Q' E → WT X c (env s) (gg s) fun d r2 G2 => Wk r2 (env s) ∧ G2 = gg s ∧ Q' d)
    (hb : ∀ (s : σT) (Q' : Rt σT ρ → Prop), (f s).sat Q' E → WB X body (env s) (gg s) { nx := AtS env gg (fun s => Q' (.nx s)), ct := AtS env gg (fun s => Q' (.nx s)), bk := fun r1 G1 => WB X rest r1 G1 D0, rt := fun y G' => ∃ v, y = er v ∧ G' = gr v ∧ Q' (.rt v) })
    (hr : ∀ v, (kk (.rt v)).sat Q E → D0.rt (er v) (gr v)) (hn : ∀ s, (kk (.nx s)).sat Q E → WB X rest (env s) (gg s) D0) : WB X (.While c body [] pos :: rest) r G D0 := by
  subst hg
  refine wb_cons (ws_while hp (fun m r1 G1 => AtS env gg (fun s => ((Out.whlR cc f m s).bind kk).sat Q E) r1 G1) n ⟨s0, w0, rfl, h0⟩ fun m r1 G1 ⟨s, w, hg, hq⟩ => ?_)
  subst hg
  cases m with
  | zero => exact hq.elim
  | succ m =>
    have hq1 : (cc s).sat (fun b => if b = true then (f s).sat (fun t => match t with
        | .nx s' => ((Out.whlR cc f m s').bind kk).sat Q E
        | .rt v => (kk (.rt v)).sat Q E) E else (kk (.nx s)).sat Q E) E := by
      have z : (((cc s).bind fun b => if b = true then (f s).bind (fun t => match t with
        | .nx s' => Out.whlR cc f m s'
        | .rt v => .ok (.rt v)) else .ok (.nx s)).bind kk).sat Q E := hq
      cases hcc : cc s with
      | ok b =>
        rw [hcc] at z
        cases b with
        | true =>
          have z' : (((f s).bind (fun t => match t with
            | .nx s' => Out.whlR cc f m s'
            | .rt v => .ok (.rt v))).bind kk).sat Q E := z
          show (f s).sat _ E
          cases hf : f s with
          | ok t =>
            rw [hf] at z'
            cases t with
            | nx s' => exact z'
            | rt v => exact z'
          | ex x' => rw [hf] at z'; exact z'
          | no => rw [hf] at z'; exact z'
        | false => exact z
      | ex x' => rw [hcc] at z; exact z
      | no => rw [hcc] at z; exact z
    have q := hc s _ hq1
    refine fun F0 T F H σ lk S => (q F0 T F H σ lk (S.weak w)).mono fun d H2 ⟨r2, G2, F2, e2, S2, w2, hg2, q2⟩ => ?_
    subst hg2
    refine ⟨env s, gg s, F2, e2, S2.weak w2, fun hd => ?_, fun hd => ?_⟩
    · subst hd
      exact WB.mono (hb s _ q2) (fun r3 G3 z => ⟨m, Nat.lt_succ_self _, z⟩) (fun y G' ⟨v, hy, hG, z⟩ => by subst hy hG; exact hr v z) (fun _ _ z => z) (fun r3 G3 z => ⟨m, Nat.lt_succ_self _, z⟩)
    · subst hd
      exact hn s q2
/-- for, with a break on some way -/
theorem wb_forB (is : List Nat) (env : σT → Env2) (gg : σT → GD) (en : α → D) (hp : PassesOwn (model X.prog X.w) X.A X.env X.xe) (hc : X.calm = true)
    (h : WI X tg e r G fun ds r2 G1 => ∃ (xs : List α) (s0 : σT) (f : σT → α → Out (Rt σT σT)) (kk : Rt σT σT → Out β) (Q : β → Prop) (E : Xm → Prop), ds = xs.map en ∧ Wk r2 (env s0) ∧ G1 = gg s0 ∧ ((Out.loop f xs s0).bind kk).sat Q E ∧
      (∀ (s : σT) (x : α) (Q' : Rt σT σT → Prop), (f s x).sat Q' E → WG X tg (en x) (env s) (gg s) is fun r4 G4 => WB X body r4 G4 { D0 with nx := AtS env gg (fun s => Q' (.nx s)), ct := AtS env gg (fun s => Q' (.nx s)), bk := AtS env gg (fun s => Q' (.rt s)) }) ∧
      (∀ s, (kk (.nx s)).sat Q E → WB X rest (env s) (gg s) D0) ∧ ∀ s, (kk (.rt s)).sat Q E → WB X rest (env s) (gg s) D0) (hs : ∀ x, foldedSetIterable e X.env x = pure x := by intro _; rfl) : WB X (.For tg e body [] pos :: rest) r G D0 :=
  wb_cut (fun r1 G1 => WB X rest r1 G1 D0) (ws_for (is := is) hp hc (h.mono fun ds r2 G1 ⟨xs, s0, f, kk, Q, E, hd, w0, hg, h0, hb, hn, hn2⟩ => by
    subst hd hg
    refine ⟨fun k r3 G3 => AtS env gg (fun s => ((Out.loop f (xs.drop k) s).bind kk).sat Q E) r3 G3, ⟨s0, w0, rfl, h0⟩, fun k d r3 G3 hd ⟨s, w, hg, hq⟩ => ?_, fun r3 G3 ⟨s, w, hg, hq⟩ => ?_⟩
    · subst hg
      obtain ⟨x, hx, rfl⟩ := map_at hd
      rw [drop_at hx] at hq
      have hq' : (f s x).sat (fun t => match t with
          | .nx s' => ((Out.loop f (xs.drop (k + 1)) s').bind kk).sat Q E
          | .rt v => (kk (.rt v)).sat Q E) E := by
        have z := hq
        unfold Out.loop at z
        cases hf : f s x with
        | ok t =>
          rw [hf] at z
          cases t with
          | nx s' => exact z
          | rt v => exact z
        | ex x' => rw [hf] at z; exact z
        | no => rw [hf] at z; exact z
      refine WG.weak w fun F0 T F H σ v lk S rp => ?_
      have q := hb s x _ hq' F0 T F H σ v lk S rp
      refine fun pins s1 u I rv => wpAny_mono (q pins s1 u I rv) (fun _ _ ⟨σ', H', I', hw, r', G', F', e', S', q'⟩ => ⟨σ', H', I', hw, r', G', F', e', S', ?_⟩) fun _ _ x => x
      refine WB.mono q' (fun _ _ z => z) (fun _ _ z => z) (fun r5 G5 ⟨s5, w5, hg5, z⟩ => ?_) (fun _ _ z => z)
      subst hg5
      exact (hn2 s5 z).weak w5
    · rw [List.length_map, List.drop_length] at hq
      subst hg
      exact (hn s hq).weak w) hs) fun r1 G1 z => z
/-- isinstance(x, (S, T)) of two built-in classes -/
theorem we_isiT {x y z : Str} {n m : String} {py pz pt : Pos} {kx} {Q : Res → Env2 → GD → Prop} (hg : Gl X x) (hm : X.mg x = none) (hv : bootBuiltins x = some (.builtin "isinstance")) (hg2 : Gl X y) (hm2 : X.mg y = none) (hv2 : bootBuiltins y = some (.type n)) (hg3 : Gl X z) (hm3 : X.mg z = none) (hv3 : bootBuiltins z = some (.type m))
    (h : WE X a r G fun q r1 G1 => ∃ d t c, q = .sh d ∧ tyD d = some t ∧ PySem.W.kitAny X.K t [.type n, .type m] = some c ∧ Q (.sh (.bl c)) r1 G1)
    (hn : x ≠ "__name__" := by decide) (hdb : (x == ("__debug__" : Str)) = false := by decide) (hn2 : y ≠ "__name__" := by decide) (hdb2 : (y == ("__debug__" : Str)) = false := by decide) (hn3 : z ≠ "__name__" := by decide) (hdb3 : (z == ("__debug__" : Str)) = false := by decide)
    (he : starEach [a, .Tuple [.Name y py, .Name z pz] kx pt] X.env = (false, eval a X.env) :: starEach [.Tuple [.Name y py, .Name z pz] kx pt] X.env := by rfl) (he2 : starEach [.Tuple [.Name y py, .Name z pz] kx pt] X.env = (false, eval (.Tuple [.Name y py, .Name z pz] kx pt) X.env) :: starEach [] X.env := by rfl)
    (he3 : starEach [.Name y py, .Name z pz] X.env = (false, eval (.Name y py) X.env) :: starEach [.Name z pz] X.env := by rfl) (he4 : starEach [.Name z pz] X.env = (false, eval (.Name z pz) X.env) :: starEach [] X.env := by rfl)
    (hpl : (backTo pos (starEach [.Tuple [.Name y py, .Name z pz] kx pt] X.env)).any (·.1) = false := by rfl) :
    WE X (.Call (.Name x p0) [a, .Tuple [.Name y py, .Name z pz] kx pt] [] pos) r G Q := fun F0 T F H σ lk S =>
  Run.of (pe_callB call_isiT hg hm hv (pa_cons peR (pa_cons (pe_tup (pa_cons (pe_bltn (v := .ty n) hg2 hm2 hv2 rfl hn2 hdb2) (pa_cons (pe_bltn (v := .ty m) hg3 hm3 hv3 rfl hn3 hdb3) pa_nil he4) he3)) pa_nil he2) he) hn hdb he hpl) ((h F0 T F H σ lk S).mono fun v H1 ⟨q, r1, G1, F1, e1, S1, k1, d, t, c, q1, q2, q3, q4⟩ => by
    subst q1
    refine ⟨by rw [sizeLine_eq]; show 2 ≤ 16777216; decide, fun p hp => ?_⟩
    have ef : Ex F1 (upd F1 p (.tup [.ty n, .ty m])) := Ex.new (S1.bas.freshF hp).1
    have S2 := S1.newF (o := .tup [.ty n, .ty m]) hp
    exact ⟨v, p, [.ty n, .ty m], t, [.type n, .type m], c, rfl, upd_same, .cons (.ty n) (.cons (.ty m) .nil), tyX_of S2.bas.fh (S2.viewR (x := .sh d) (Rep.mono ef _ _ k1) (.inl rfl)) q2, q3, .sh (.bl c), r1, G1, _, e1.trans ef, S2, rfl, q4⟩)
end
/-- the box, made of any script -/
def mixT (m : (ns : List Int) → ns.length ≤ 63 → Int → Bh) (ns : List Int) (seed : Int) : Bh := if h : ns.length ≤ 63 then m ns h seed else ⟨([], 0, 0), by simp⟩
theorem mixT_pos {m : (ns : List Int) → ns.length ≤ 63 → Int → Bh} {ns : List Int} {seed : Int} (h : ns.length ≤ 63) : mixT m ns seed = m ns h seed := by unfold mixT; rw [dif_pos h]

open Out (Rt)
/-! ### sorted(set(xs)), ints -/
section
variable {P : Program} {w : World} {A : Around} {E : Value → Shared → Prop} {s : Shared}
/-- the object of set() -/
abbrev newS (w : World) : Obj := { cls := .type "set", dict := none, data := .set #[] 0 (.fresh 0 0 (!w.params.followText "set-order")) }
/-- what set(xs) leaves -/
def SetMade (w : World) (s : Shared) (ns : List Int) (s2 : Shared) : Prop := ∃ (h' : Heap) (tk c : Nat), s2 = { s with heap := h', toks := tk } ∧ SetR w h' s.heap.objs.size (fun j => decide (j ∈ ns)) c ∧ c ≤ ns.length ∧ ∀ b o, s.heap.get? b = some o → h'.get? b = some o
theorem set_of_list {l : Addr} {items : Array Value} (ns : List Int) {Q : Value → Shared → Prop} (hh : A.handled = none) (hl : s.heap.IsList l items) (hit : IntsAre items.toList ns) (hb : ns.length + 1 < scanBound)
    (h : ∀ s2, SetMade w s ns s2 → Q (.ref s.heap.objs.size) s2) : wpAny (model P w) A (call (.type "set") [.ref l]) Q E s := by
  have hisz : items.size = ns.length := (Array.length_toList).symm.trans (IntsAre.length hit)
  have hval : ∀ (i : Nat) (v : Value), items[i]? = some v → ∃ k t, ns[i]? = some k ∧ v = .int k t := fun i v hv => by
    obtain ⟨t, e⟩ := PyProof.Rows.IntsAre.int_at hit i v (by rw [Array.getElem?_toList]; exact hv)
    have hi : i < ns.length := hisz ▸ (Array.getElem?_eq_some_iff.mp hv).1
    rw [List.getD_eq_getElem?_getD, List.getElem?_eq_getElem hi] at e
    exact ⟨ns[i], t, List.getElem?_eq_getElem hi, e⟩
  obtain ⟨_, _, hmro⟩ := F.called_set.mro
  have hmade := F.called_set.made
  have hsub := F.called_set.sub
  have hno := F.called_set.notType
  have hcan := F.called_set.canCreate
  have hct := F.typeCall_set_1 (.ref l)
  refine wpAny_call (codeAny_of_tree ?_)
  show wpAny _ _ (callAny (.type "set") _) _ _ _
  refine wpAny_pure ⟨Code.quiet_builtin _ (by decide +kernel), codeAny_builtin F.entry_type_call ?_⟩
  rw [Around.under_plain (weight_type_call_type "set" [.ref l] []) rfl]
  repeat (any_goals (first | assumption | wp_step))
  refine codeAny_mono (code_set_led1 (.ref l) (E := E) (Q₁ := fun x s1 => x = .ref s.heap.objs.size ∧ s1 = { s with heap := s.heap.push (newS w) }) ⟨rfl, rfl⟩) fun r s1 hr => ?_
  match r, hr with
  | .error e, hr => exact hr
  | .ok (.ret x), ⟨hx, hs1⟩ =>
    subst hx hs1
    have hS : (s.heap.push (newS w)).get? s.heap.objs.size = some (newS w) := Heap.get?_push_size _ rfl
    have hT : Shared.TypeIs { s with heap := s.heap.push (newS w) } (.ref s.heap.objs.size) "set" := ⟨_, hS, rfl⟩
    have hli := F.called_set.init.lookup
    have hbi := F.called_set.init.bind (.ref s.heap.objs.size)
    repeat (any_goals (first | assumption | wp_step))
    refine codeAny_mono (codeAny_call_builtin (R := wants (fun x s2 => x = .none ∧ SetMade w s ns s2) E) F.called_set.init.plain F.entry_set_init (check_set_init_1 hT ?_)) fun r2 s2 hr2 => ?_
    · obtain ⟨⟨oc, od, odt, osl⟩, hol, hcl, nl, hdl⟩ := hl
      dsimp only at hcl hdl
      subst hcl hdl
      have hol' : (s.heap.push (newS w)).get? l = some { cls := .type "list", dict := od, data := .seq items nl, slots := osl } := Heap.get?_push_of_some _ hol
      have hl1 : (s.heap.push (newS w)).IsList l items := ⟨_, hol', rfl, nl, rfl⟩
      have hlS : l < s.heap.objs.size := Heap.lt_size hol
      have hz : (s.heap.push (newS w)).objs.size = s.heap.objs.size + 1 := Heap.size_push ..
      have hsls := F.sub_list_set
      have hslf := F.sub_list_frozenset
      have hne : (Value.type "list" == Value.type "dict") = false := by decide
      unfold Builtin.«set.__init__» noKeywords Builtin.Frozenset.updateFrom
      generalize hPI : pyIter = PI
      wp_walk
      subst hPI
      refine wpAny_pyIter_list hl1 (wpAny_bind (wpAny_runValue ?_))
      refine set_update_ints ((Walks.list (show A.in1.in1.in1.handled = none by simp [hh]) _ l (by rw [hz]; exact Nat.ne_of_lt (Nat.lt_succ_of_lt hlS)) items).toS) s.heap.objs.size (by rw [hz]; simp only [List.mem_cons, List.not_mem_nil, or_false, not_or]; exact ⟨Nat.ne_of_lt (Nat.lt_succ_self _), Nat.ne_of_gt hlS⟩) ns hisz hb hval (items.size - 0) 0 _ (by omega) (Nat.zero_le _)
        ⟨⟨_, Heap.get?_push_size _ rfl, rfl, rfl⟩, (hl1.push _)⟩ ⟨0, Nat.le_refl 0, setR_new_at (Heap.get?_push_of_some _ hS)⟩ fun s' c' hm hc' hS' => ?_
      obtain ⟨h', g', d', tk', os'⟩ := s'
      cases (show g' = s.gens from hm.gens)
      cases (show d' = s.drawn from hm.drawn)
      cases (show os' = s.os from hm.os)
      show wpAny _ _ _ _ _ _
      refine wpAny_pure ?_
      show wpAny _ _ (ret Value.none) _ _ _
      refine wpAny_pure ⟨rfl, h', tk', c', rfl, hS', hisz ▸ hc', fun b o e => ?_⟩
      have hb0 : b < s.heap.objs.size := Heap.lt_size e
      exact hm.heap b o (by rw [hz]; simp only [List.mem_cons, List.not_mem_nil, or_false, not_or]; exact ⟨Nat.ne_of_lt hb0, Nat.ne_of_lt (Nat.lt_succ_of_lt hb0)⟩) (Heap.get?_push_of_some _ (Heap.get?_push_of_some _ e))
    · match r2, hr2 with
      | .error e, hr2 => exact hr2
      | .ok (.ret _), ⟨hx, hm⟩ =>
        subst hx
        repeat (any_goals (first | assumption | wp_step))
        exact h _ hm
/-- sorted(found), of any number of members -/
theorem sorted_setB {a : Addr} {S : Int → Bool} {n : Nat} {Q : Value → Shared → Prop} (R : SetR w s.heap a S n) (hh : A.handled = none)
    (hQ : ∀ s' p (out : Array Value) (c : Nat) (ns : List Int), (∀ b o, s.heap.get? b = some o → s'.heap.get? b = some o) → s'.gens = s.gens → s'.os = s.os → s.heap.objs.size ≤ p →
      s'.heap.get? p = some (seqObj "list" out c) → IntsAre out.toList ns → ns.Pairwise (· < ·) → (∀ k, k ∈ ns ↔ S k = true) → ns.length = n → Q (.ref p) s') :
    wpAny (model P w) A (call (.builtin "sorted") [.ref a]) Q E s := by
  obtain ⟨o, es, ep, t, ho, hex, hd, g, nd, hm, hb, hf, hn, hr, hl⟩ := R
  have hsz : es.size ≤ sizeLine := by rw [sizeLine_eq]; unfold scanBound at hb; omega
  refine Calls.call_function_entry kind_sorted plain_sorted entry_sorted (args_sorted1 _) ?_
  unfold Builtin.«sorted»
  refine wpAny_bind (m := checkCount "sorted" 1 1 _) (wpAny_pure (wpAny_bind (collect_set (A := A.in1) hh ⟨o, ho, hex.1, hd⟩ hf hb hr hl fun s1 vs k1 hz g1 o1 pm => ?_)))
  have hvl : vs.length = es.size := by rw [pm.length_eq, List.length_map, Array.length_toList]
  have hI : IntsAre vs (vs.map Builtin.Re.reRawOf) := ints_of vs fun v hv => by
    obtain ⟨e, he, q⟩ := List.mem_map.mp (pm.mem_iff.mp hv)
    obtain ⟨k, tk, h1, _⟩ := g e he
    exact ⟨k, tk, q ▸ h1⟩
  have hoL : (s1.heap.push (seqObj "list" vs.toArray 0)).get? s1.heap.objs.size = some (seqObj "list" vs.toArray 0) := Heap.get?_push_size _ rfl
  refine wpAny_bind (wpAny_newList ?_ (by rw [hvl]; exact hsz))
  refine wpAny_bind (wpAny_holding (wpAny_call_entry slot_list_sort ⟨_, hoL, rfl⟩ entry_list_sort (list_sort_treeAny hoL hI (by rw [hvl]; exact hsz) fun out ns' a1 a2 a3 => ⟨_, rfl, ?_⟩) (args_list_sort _)))
  obtain ⟨c, hc⟩ := sortedHeap_at (vs := vs) (out := out) hoL
  have pn : ns'.Perm (es.toList.map keyOf) := a2.trans (by have q := pm.map Builtin.Re.reRawOf; rw [List.map_map] at q; exact q)
  refine wpAny_pure ⟨_, rfl, hQ _ s1.heap.objs.size out c ns' (fun b u e => ?_) g1 o1 hz hc a1 (lt_of_le_nodup ns' a3 (pn.nodup_iff.mpr nd)) (fun k => by rw [pn.mem_iff, ← hm k]) (by rw [pn.length_eq, List.length_map, Array.length_toList]; exact hn)⟩
  have hlt := Heap.lt_size (k1 b u e)
  show (sortedHeap (s1.heap.push (seqObj "list" vs.toArray 0)) s1.heap.objs.size vs out).get? b = some u
  rw [sortedHeap_old (Nat.ne_of_lt hlt) (by rw [Heap.size_push]; exact Nat.lt_succ_of_lt hlt)]
  exact Heap.get?_push_of_some _ (k1 b u e)
end
section
variable {X : Cx}
/-- set(xs) -/
def rSetL (K : PySem.W.Frag) (w : World) : List V → Hp → VK → Prop := fun xs H Q => ∃ (l : Addr) (ns : List Int), xs = [.ref l] ∧ SqL K H l (ns.map V.int) ∧ ns.length ≤ 1000 ∧ ∀ p c, H p = none → c ≤ ns.length → Q (.ref p) (upd H p (SetO w p (fun j => decide (j ∈ ns)) c))
theorem cr_setL (hc : X.calm = true) : CallR X (.type "set") (rSetL X.K X.w) := by
  intro pins s σ H xs us Q I r h
  obtain ⟨l, ns, rfl, hS, hn, q⟩ := h
  rw [Vals.ref1 r]
  obtain ⟨its, rv, ⟨o, m, ho, hcl, hd, hdt⟩, _⟩ := I.list hS
  refine set_of_list (items := its.toArray) ns (I.ok.hd hc) ⟨o, ho, hcl, m, hdt⟩ (ints_of_vals rv) (by unfold scanBound; omega) fun s2 ⟨h', tk, c, e, R, hcn, k⟩ => ?_
  subst e
  exact ⟨.ref _, upd H s.heap.objs.size (SetO X.w s.heap.objs.size (fun j => decide (j ∈ ns)) c), I.laid (t' := tk) k (Nat.le_refl _) (setO_new R), rfl, q _ _ (I.hok.fresh (Nat.le_refl _)) hcn⟩
/-- sorted(found) -/
def rSortB (w : World) : List V → Hp → VK → Prop := fun vs H Q => ∃ (a : Addr) (S : Int → Bool) (n : Nat), vs = [V.ref a] ∧ H a = some (SetO w a S n) ∧ n ≤ 1000 ∧
  ∀ (ns : List Int) (p : Addr), ns.Pairwise (· < ·) → (∀ k : Int, k ∈ ns ↔ S k = true) → H p = none → Q (.ref p) (upd H p (.lst (ns.map V.int)))
theorem cr_sortB (hc : X.calm = true) : CallR X (.builtin "sorted") (rSortB X.w) := by
  intro pins s σ H vs us Q I r h
  obtain ⟨a, S, n, rfl, ha, hn, q⟩ := h
  rw [Vals.ref1 r]
  refine sorted_setB (setO_get I ha) (I.ok.hd hc) fun s' p out c ns k g o hp hg hi hs hm hl => ?_
  have hlen : (ns.map V.int).length ≤ sizeLine := by rw [List.length_map, hl, sizeLine_eq]; omega
  have hf : H p = none := I.hok.fresh hp
  have J : Inv X pins σ (upd H p (.lst (ns.map V.int))) { s with heap := s'.heap, gens := s'.gens, drawn := s'.drawn, toks := s'.toks } :=
    I.call (ch := []) (Un.laid k hp hf) (I.hok.laid k hp ⟨hlen, out.toList, c, vals_of_ints hi, hg⟩) (by rw [g]; exact I.bare) (fun _ z => nomatch z)
  have e : s' = { s with heap := s'.heap, gens := s'.gens, drawn := s'.drawn, toks := s'.toks } := by cases s'; cases s; cases o; rfl
  rw [e]
  exact ⟨.ref p, _, J, rfl, q ns p hs hm hf⟩
end
section
variable {X : Cy} {e a b c o tg kx vx elt : Expr} {r : Env2} {G : GD} {pos p0 p1 p2 : Pos}
/-- the different ints, ascending -/
def uniq (ns : List Int) : List Int := isort ((dmk (ns.map fun x => (x, true))).map (·.1))
theorem we_sortSet {Q : Res → Env2 → GD → Prop} (hcalm : X.calm = true) (hg : Gl X "sorted") (hm : X.mg "sorted" = none) (hg2 : Gl X "set") (hm2 : X.mg "set" = none)
    (h : WE X a r G fun x r1 G1 => ∃ ns : List Int, VwR r1 G1 x (.lst (ns.map D.int)) ∧ ns.length ≤ 1000 ∧ ∀ out : List Int, out.Pairwise (· < ·) → (∀ k, k ∈ out ↔ k ∈ ns) → Q (.fr (.lst (out.map D.int))) r1 G1)
    (he : starEach [.Call (.Name "set" p1) [a] [] p2] X.env = (false, eval (.Call (.Name "set" p1) [a] [] p2) X.env) :: starEach [] X.env := by rfl) (hpl : (backTo pos (starEach [] X.env)).any (·.1) = false := by rfl)
    (he2 : starEach [a] X.env = (false, eval a X.env) :: starEach [] X.env := by rfl) (hpl2 : (backTo p2 (starEach [] X.env)).any (·.1) = false := by rfl) :
    WE X (.Call (.Name "sorted" p0) [.Call (.Name "set" p1) [a] [] p2] [] pos) r G Q := fun F0 T F H σ lk S =>
  Run.of (pe_callB (cr_sortB hcalm) hg hm (by rfl) (pa_cons (pe_callTy (cr_setL hcalm) hg2 hm2 (by rfl) (pa_cons peR pa_nil he2) (by decide) (by decide) he2 hpl2) pa_nil he) (by decide) (by decide) he hpl) ((h F0 T F H σ lk S).mono fun v H1 ⟨x, r1, G1, F1, e1, S1, k1, ns, q1, q2, q3⟩ => by
    obtain ⟨l, vs, rfl, hl, hvs⟩ := (S1.viewR k1 q1).lst S1.bas.fh
    cases hvs.ints
    refine ⟨l, ns, rfl, .inl hl, q2, fun p c hp hcn => ?_⟩
    have S2 := S1.newH (o := SetO X.w p (fun j => decide (j ∈ ns)) c) hp
    refine ⟨p, _, c, rfl, upd_same, by omega, fun out p' h1 h2 hp' => ?_⟩
    obtain ⟨f1, f2, f3⟩ := S2.bas.freshF hp'
    exact ⟨.fr (.lst (out.map D.int)), r1, G1, F1, e1, S2.newH hp', ⟨p', rfl, ⟨out.map V.int, upd_same, ints_rep out⟩, f1, f2, f3, S2.freshR hp'⟩, q3 out h1 fun k => by rw [h2, decide_eq_true_eq]⟩)
end

open Out (Rt)
/-! ### rules whose end the elaborator does not look into -/
structure Hold (p : Prop) : Prop where
  h : p
section
variable {X : Cy} {a b a1 v1 : Expr} {r : Env2} {G : GD} {pos : Pos} {D0 : EndsD}
theorem ws_par3H (i j l : Nat) {x y z : Str} {c : Expr} {px py pz pt : Pos} {kt k2 pt2} (hc : X.calm = true) (hN : X.N.Nodup) (hi : X.N[i]? = some x) (hj : X.N[j]? = some y) (hl : X.N[l]? = some z) (hij : i ≠ j) (hil : i ≠ l) (hjl : j ≠ l)
    (hx : X.env.scope.names.lookup x = some .local) (hy : X.env.scope.names.lookup y = some .local) (hz0 : X.env.scope.names.lookup z = some .local)
    (hw : swappedStores [.Tuple [.Name x px, .Name y py, .Name z pz] kt pt] (.Tuple [a, b, c] k2 pt2) X.env = pure (some [x, y, z]))
    (h : WE X a r G fun z1 r1 G1 => ∃ z1' r2, nz r1 z1 = some (z1', r2) ∧ WE X b r2 G1 fun w r3 G3 => ∃ w' r4, nz r3 w = some (w', r4) ∧ WE X c r4 G3 fun u r5 G5 => ∃ u' r6, nz r5 u = some (u', r6) ∧ i < r6.length ∧ j < r6.length ∧ l < r6.length ∧ D0.nx (((r6.set i (slO z1')).set j (slO w')).set l (slO u')) G5)
    (hs : swapsWithSole [.Tuple [.Name x px, .Name y py, .Name z pz] kt pt] (.Tuple [a, b, c] k2 pt2) pos.line X.env = pure false := by rfl)
    (h1 : starEach [a, b, c] X.env = (false, eval a X.env) :: starEach [b, c] X.env := by rfl) (h2 : starEach [b, c] X.env = (false, eval b X.env) :: starEach [c] X.env := by rfl) (h3 : starEach [c] X.env = (false, eval c X.env) :: starEach [] X.env := by rfl) :
    Hold (WS X (.Assign [.Tuple [.Name x px, .Name y py, .Name z pz] kt pt] (.Tuple [a, b, c] k2 pt2) pos) r G D0) :=
  ⟨ws_par3 i j l hc hN hi hj hl hij hil hjl hx hy hz0 hw h hs h1 h2 h3⟩
theorem we_dispT1H {κ ν : Type} [DecidableEq κ] {k : κ → Key} {f : ν → D} {Q : Res → Env2 → GD → Prop} (hk : KInj k) (h : WPrT X k f [a1] [v1] r G fun kvs r1 G1 => Q (.fr (eD k f (dmk kvs))) r1 G1) : Hold (WE X (.Dict [some a1] [v1] pos) r G Q) := ⟨we_dispT1 hk h⟩
end

/-! ### raise C("text") -/
/-- an own exception class over ValueError without an own __init__ -/
structure XC (K : PySem.W.Frag) (mg : Str → Option Value) (x : Str) (C : Addr) : Prop where
  q : PySem.W.excIn K C [.type "ValueError", .type "Exception", .type "BaseException", .type "object"] "ValueError.__new__" = true
  gC : mg x = some (.ref C)
  kC : PySem.W.keepIn K (.ref C) = true
  sb : PySem.W.subIn K (.ref C) (.type "BaseException") = some true
  ty : PySem.W.typeIn K (.ref C) = some (.type "type")
section
variable {X : Cy} {e a b c o : Expr} {es : List Expr} {r : Env2} {G : GD} {pos p0 p1 p2 rpos : Pos} {D0 : EndsD}
theorem ws_raise1 {x m : Str} {C : Addr} {j : Nat} (xc : XC X.K X.mg x C) (hc : X.calm = true) (tk : X.Tk) (hg : Gl X x) (h : X.QX ⟨.ref C, []⟩ r G) (hdb : (x == ("__debug__" : Str)) = false := by decide) :
    WS X (.Raise (some (.Call (.Name x p0) [.Constant (.str m) j p2] [] pos)) none rpos) r G D0 := fun F0 T F H σ lk S =>
  RunS.of (ps_raise hc tk (pmk_own PySem.F.excBase_ValueError xc.q xc.gC xc.kC (raises_own xc.sb xc.ty) hg hdb)) ⟨r, G, F, _, lk.sta S, ⟨rfl, .inl ⟨rfl, rfl⟩⟩, h⟩
end

/-! ### a lambda without parameters -/
/-- own objects are not seen -/
def hide : Env2 → Env2
  | [] => []
  | .own _ :: r => .no :: hide r
  | .no :: r => .no :: hide r
  | .sh d :: r => .sh d :: hide r
theorem hide_wk : ∀ r, Wk r (hide r)
  | [] => .nil
  | .own _ :: r => .no (hide_wk r)
  | .no :: r => .no (hide_wk r)
  | .sh d :: r => .eq (hide_wk r)
theorem hide_own : ∀ (r : Env2) (i : Nat) (d : D), (hide r)[i]? ≠ some (.own d)
  | [], i, d, h => by simp [hide] at h
  | .own _ :: r, 0, d, h => by simp [hide] at h
  | .no :: r, 0, d, h => by simp [hide] at h
  | .sh _ :: r, 0, d, h => by simp [hide] at h
  | .own _ :: r, i + 1, d, h => hide_own r i d (by simpa [hide] using h)
  | .no :: r, i + 1, d, h => hide_own r i d (by simpa [hide] using h)
  | .sh _ :: r, i + 1, d, h => hide_own r i d (by simpa [hide] using h)
def Cy.lam (X : Cy) (A : Around) (outer : List Env) (s : Shared) (H : Hp) (E : XK) (scope : Scope) (f c' : Addr) (F T : Hp) (QX : Exn → Env2 → GD → Prop) : Cy :=
  { LamX.lamCx X.toCx A outer s H E scope f c' with F0 := F, T := T, QX := QX }
/-- a context of the lambda's body -/
def LamY (X : Cy) (scope : Scope) (k : Nat) (px : Exn → GD → Prop) (Y : Cy) : Prop :=
  ∃ (A : Around) (outer : List Env) (s : Shared) (H : Hp) (E : XK) (f c' : Addr) (F T : Hp), Room k (A.deeper (LamX.lamEnv X.toCx scope s.heap.objs.size f c')) ∧ (X.lam A outer s H E scope f c' F T fun x _ G => px x G).Tk ∧ Y = X.lam A outer s H E scope f c' F T fun x _ G => px x G
/-- the state at the lambda's entry: as at a call, the slots shared -/
theorem Sta.enter {K : PySem.W.Frag} {F0 T F : Hp} {G : GD} {H : Hp} {r : Env2} {σ : L2.St} (S : Sta K F0 T F G H r σ) : Sta K F (Tof G H) F G H (hide r) σ := by
  have S' := S.weak (hide_wk r)
  refine ⟨⟨Ex.refl _, fun _ _ z => .inl z, S.bas.fh, S.bas.gh, S.bas.fg, fun a o z => Tof_some z, fun a o z => ?_⟩, S'.len, fun i s z => ?_, fun i j d e _ z => absurd z (hide_own r i d)⟩
  · unfold Tof at z
    split at z
    · exact z
    · cases z
  · have q := S'.sl i s z
    cases s with
    | no => trivial
    | sh d => exact q
    | own d => exact absurd z (hide_own r i d)
/-- a table grows by a code object -/
theorem Sta.tab {K : PySem.W.Frag} {F0 T F : Hp} {G : GD} {H : Hp} {r : Env2} {σ : L2.St} {P c : Addr} {q : Str} {ps more : Array Value} (S : Sta K F0 T F G H r σ) (hG : G P = some (.tab q)) (hc : H c = none)
    (ht : TriplesOk (ps ++ more).toList) (ha : ∀ (pos : Pos) (cv : Value), codeAmong pos (ps ++ more).toList = some cv → (∃ c0, cv = .ref c0 ∧ F c0 = some (LamX.CodeO c0 q)) ∨ cv = .ref c) :
    Sta K F0 T (upd F c (LamX.CodeO c q)) G (upd (upd H P (.tbl (ps ++ more))) c (LamX.CodeO c q)) r σ := by
  obtain ⟨fc, gc, tc⟩ := S.bas.freshF hc
  have fP := S.bas.fg _ _ hG
  have tP := S.bas.gt _ _ hG
  have hPc : P ≠ c := fun z => by subst z; obtain ⟨o, ho⟩ := S.bas.gh' hG; rw [hc] at ho; cases ho
  have ef : Ex F (upd F c (LamX.CodeO c q)) := Ex.new fc
  have at_ : ∀ a, a ≠ P → a ≠ c → upd (upd H P (.tbl (ps ++ more))) c (LamX.CodeO c q) a = H a := fun a h1 h2 => by rw [upd_ne h2, upd_ne h1]
  refine S.grow (G' := G) ⟨S.bas.ff.trans ef, fun a o h => ?_, fun a o h => ?_, fun a d h => ?_, fun a o h => ?_, S.bas.gt, fun a o h => ?_⟩ ef fun p h1 h2 h3 ⟨u, hu⟩ => ?_
  · by_cases e : a = c
    · subst e; exact .inr tc
    · rw [upd_ne e] at h; exact S.bas.ft a o h
  · by_cases e : a = c
    · subst e; rw [upd_same] at h ⊢; exact h
    · rw [upd_ne e] at h ⊢
      have eP : a ≠ P := fun z => by subst z; rw [fP] at h; cases h
      rw [upd_ne eP]; exact S.bas.fh a o h
  · by_cases e : a = P
    · subst e
      rw [hG] at h; cases h
      exact ⟨_, by rw [upd_ne hPc, upd_same], ht, fun pos cv hcv => by
        rcases ha pos cv hcv with ⟨c0, e1, e2⟩ | e1
        · exact ⟨c0, e1, ef _ _ e2⟩
        · exact ⟨c, e1, upd_same⟩⟩
    · have ec : a ≠ c := fun z => by subst z; rw [gc] at h; cases h
      exact (S.bas.gh a d h).mono ef fun o ho => by rw [at_ a e ec]; exact ho
  · have ec : a ≠ c := fun z => by subst z; rw [gc] at h; cases h
    rw [upd_ne ec]; exact S.bas.fg a o h
  · have ec : a ≠ c := ne_of_none h tc
    have eP : a ≠ P := ne_of_none h tP
    rw [at_ a eP ec]; exact S.bas.tk a o h
  · have ec : p ≠ c := fun z => by subst z; rw [hc] at hu; cases hu
    have eP : p ≠ P := fun z => by subst z; rw [h2] at hG; cases hG
    exact ⟨fun o ho => by rw [at_ p eP ec]; exact ho, by rw [upd_ne ec]; exact h1, h2, h3⟩
section
variable {X : Cx} {pins : List (Addr × Obj)} {σ : L2.St} {H : Hp} {s : Shared}
/-- the lambda is made; what has changed is told -/
theorem lam_mk {c P : Addr} {ps : Array Value} {params : Arguments} {body : Expr} {scope : Scope} {pos : Pos} {E : Value → Shared → Prop} {Q : Value → Shared → Prop} (I : Inv X pins σ H s) (TB : LamX.TabB X.base X.mg c P) (hcode : X.env.code = .ref c)
    (hP : H P = some (.tbl ps)) (ht : TriplesOk ps.toList) (ha : ∀ (pos : Pos) (cv : Value), codeAmong pos ps.toList = some cv → ∃ c, cv = .ref c ∧ H c = some (LamX.CodeO c (X.env.qual ++ "<lambda>")))
    (hdef : defaultsOf params X.env = ([], [])) (hfree : ∀ y ∈ scope.names, y.2 = .free → ∃ c, X.env.cells.lookup y.1 = some c)
    (h : ∀ (f c' : Addr) (pm ctv : Value) (H1 : Hp) (s' : Shared), Inv X pins σ H1 s' →
      (H1 = H ∨ ∃ more : Array Value, H c' = none ∧ TriplesOk (ps ++ more).toList ∧ (∀ (p' : Pos) (cv : Value), codeAmong p' (ps ++ more).toList = some cv → codeAmong p' ps.toList = some cv ∨ cv = .ref c') ∧ H1 = upd (upd H P (.tbl (ps ++ more))) c' (LamX.CodeO c' (X.env.qual ++ "<lambda>"))) →
      s'.heap.get? f = some (PySem.W.kla_obj "<lambda>" (X.env.qual ++ "<lambda>") params body scope (cloFrom X.env.cells scope.names []) pm c' ctv) → H1 f = none → f ∉ frs X.stack → H1 c' = some (LamX.CodeO c' (X.env.qual ++ "<lambda>")) → Q (.ref f) s') :
    wpAny (model X.prog X.w) X.A (eval (.Lambda params body scope pos) X.env) Q E s := by
  refine PySem.W.kla_eval hdef ?_
  have bB : s.heap.BuiltinsAt X.mg P := TB.bm.keeps I.bk
  have hPs : s.heap.get? P = some { cls := .none, data := .fields ps } := I.hok P _ hP
  have far : ∀ f, s.heap.objs.size ≤ f → f ∉ frs X.stack := fun f hf z => by
    rcases List.mem_cons.mp (I.stkSub _ z) with e | e
    · have l := I.lt
      rw [← e] at l
      exact absurd (Nat.lt_of_lt_of_le l hf) (Nat.lt_irrefl _)
    · exact I.nofs hf e
  cases hca : codeAmong pos ps.toList with
  | none =>
    refine PySem.W.kla_makeFunction (mg := X.mg) (c := c) (P := P) (ps := ps) (closure_ok hfree) I.ok.glob (I.mod.glob.keeps I.bk) hcode (TB.code.keeps I.bk) hPs ht hca TB.gP bB fun c1 ct1 hh tok hext hge hlt hrec htab => ?_
    obtain ⟨c2, oc, vs, tt, ec, hoc, hdat, hnam⟩ := hrec
    cases ec
    have big : s.heap.objs.size ≤ hh.objs.size := Nat.le_trans hge (Nat.le_of_lt hlt)
    have nc : H c1 = none := I.hok.fresh hge
    have J := LamX.inv_table (t' := tok) (more := #[rawInt pos.line, rawInt pos.col, .ref c1]) (h' := hh.push (PySem.W.kla_obj "<lambda>" (X.env.qual ++ "<lambda>") params body scope (cloFrom X.env.cells scope.names []) ((X.mg "__name__").getD .none) c1 ct1)) (q := X.env.qual ++ "<lambda>") I hP
      (fun b ob hb eb => Heap.get?_push_of_some _ (hext b ob hb eb)) (Heap.get?_push_of_some _ htab) hge ⟨oc, vs, tt, Heap.get?_push_of_some _ hoc, hdat, hnam⟩
    have el : (ps ++ #[rawInt pos.line, rawInt pos.col, .ref c1]).toList = ps.toList ++ [rawInt pos.line, rawInt pos.col, .ref c1] := by simp
    refine h hh.objs.size c1 ((X.mg "__name__").getD .none) ct1 _ _ J (.inr ⟨_, nc, by rw [el]; exact PySem.TriplesOk_snoc _ _ _ _ ht, fun p' cv hcv => ?_, rfl⟩) (Heap.get?_push_size _ rfl) ?_ (far _ big) upd_same
    · rw [el] at hcv
      exact LamX.among_app _ ht hcv
    · have n1 : hh.objs.size ≠ c1 := Nat.ne_of_gt hlt
      have n2 : hh.objs.size ≠ P := Nat.ne_of_gt (Nat.lt_of_lt_of_le (Heap.lt_size hPs) big)
      rw [upd_ne n1, upd_ne n2]
      exact I.hok.fresh big
  | some cv =>
    obtain ⟨c1, ec, hco⟩ := ha pos cv hca
    subst ec
    refine PySem.W.kla_makeFunctionHit (mg := X.mg) (c := c) (P := P) (ps := ps) (closure_ok hfree) I.ok.glob (I.mod.glob.keeps I.bk) hcode (TB.code.keeps I.bk) hPs ht hca bB fun ct1 hh tok hext big => ?_
    have J : Inv X pins σ H { s with heap := hh.push (PySem.W.kla_obj "<lambda>" (X.env.qual ++ "<lambda>") params body scope (cloFrom X.env.cells scope.names []) ((X.mg "__name__").getD .none) c1 ct1), toks := tok } := I.kept fun b ob eb => Heap.get?_push_of_some _ (hext b ob eb)
    exact h hh.objs.size c1 ((X.mg "__name__").getD .none) ct1 H _ J (.inl rfl) (Heap.get?_push_size _ rfl) (I.hok.fresh big) (far _ big) hco
end
/-! ### a def that calls what it got, in a try -/
abbrev zcx (P : Program) (w : World) (K : PySem.W.Frag) (mg : Str → Option Value) (base : Heap) (Ng : List Str) (x : Str) (sg : Scope) (g : Addr) (cdg : Value) (A : Around) (outer : List Env) (s : Shared) (H : Hp) : Cx := cxOf C8.CX0 P w K mg base Ng x sg g cdg A outer s H C8.E0
/-- what the caught exception makes, told at the state -/
def Caught (K : PySem.W.Frag) (hd : Exn → (D → Prop) → Prop) (Q : VK) : XK := fun cls d H' => ∃ (F' : Hp) (G' : GD) (x : Exn) (p : D → Prop), Ex F' H' ∧ (∀ a d, G' a = some d → Own K F' H' a d) ∧ (∀ a o, G' a = some o → F' a = none) ∧ ExOk K F' cls d x ∧ hd x p ∧
  ∀ v H'' F'' dres, Bas K F' (Tof G' H') F'' G' H'' → Rep K F'' dres v → p dres → Q v H''
def GivE (P : Program) (w : World) (K : PySem.W.Frag) (mg : Str → Option Value) (base : Heap) (Ng : List Str) (x : Str) (sg : Scope) (g : Addr) (cdg : Value) (bg : List Stmt) (a : Str) (okd : Option V) (hd : Exn → (D → Prop) → Prop) : Prop :=
  ∀ (q : Str) (A : Around) (outer : List Env) (s : Shared) (H : Hp) (f c' : Addr) (Q : VK) (tl : XK → Hp → VK → Prop),
    (∀ (W : WX) (pn : List (Addr × Obj)) (xe : Value → Shared → Prop) (E : XK) (p1 p2 : Pos), Takes ((zcx P w K mg base Ng x sg g cdg A outer s H).tr pn xe) W → (∀ cls d σ' H', E cls d H' → W cls d σ' H') →
      PE ((zcx P w K mg base Ng x sg g cdg A outer s H).tr pn xe) (.Call (.Name a p1) [] [] p2) (fun σZ HZ Q => σZ[0]? = some (some (.ref f)) ∧ HZ c' = some (LamX.CodeO c' q) ∧ tl E HZ Q)) →
    H c' = some (LamX.CodeO c' q) → (zcx P w K mg base Ng x sg g cdg A outer s H).A.units + 64 < cLine →
    (∃ Ech : XK, tl Ech H (fun v H' => Q (okd.getD v) H') ∧ ∀ cls d H', Ech cls d H' → Caught K hd Q cls d H') →
    ∃ t, PSs (zcx P w K mg base Ng x sg g cdg A outer s H).nox bg t ∧ t { nx := fun _ H' => Q .non H', rt := Q } (L2.start Ng [.ref f]) H
/-- the promise of such a def -/
structure LErr (P : Program) (w : World) (K : PySem.W.Frag) (mg : Str → Option Value) (base : Heap) (x : Str) (okd : Option V) (hd : Exn → (D → Prop) → Prop) : Prop where
  ex : ∃ (g : Addr) (st : Stmt) (fd : FuncData) (a : Str) (Ng : List Str), Fun K x x st g fd ∧ mg x = some (.ref g) ∧ Binds K fd [a] [] ∧ FnScope Ng [a] (defScope st) ∧ Ng[0]? = some a ∧ Vis (defScope st) a ∧ (a == ("__debug__" : Str)) = false ∧ (a == ("__classdict__" : Str)) = false ∧
    ∀ cdg, GivE P w K mg base Ng x (defScope st) g cdg (defBody st) a okd hd
section
variable {X : Cy} {r : Env2} {G : GD} {body : Expr} {p pos lpos : Pos}
/-- x(lambda: body) -/
theorem we_lam {x : Str} {okd : Option V} {hd : Exn → (D → Prop) → Prop} {c P : Addr} {k j : Nat} {params : Arguments} {scope : Scope} {Q : Res → Env2 → GD → Prop} (L : LErr X.prog X.w X.K X.mg X.base x okd hd) (hg : Gl X x)
    (TB : LamX.TabB X.base X.mg c P) (hcode : X.env.code = .ref c) (hP : G P = some (.tab (X.env.qual ++ "<lambda>"))) (hr : Room j X.A) (LS : LamX.LamS X.env.scope scope) (hdef : defaultsOf params X.env = ([], []))
    (hbind : ∀ (q : Str) (cl : List (Str × Addr)) (pm cv ctv : Value), bindArgs (PySem.W.kla_fn "<lambda>" q params body scope cl pm cv ctv) ⟨[], []⟩ = pure [])
    (post : Res → GD → Prop) (px : Exn → GD → Prop)
    (hb : ∀ Y, LamY X scope k px Y → WE Y body (hide r) G fun z _ G1 => (okd = none → ∃ d, z = .sh d) ∧ post z G1)
    (hk : ∀ z G1, post z G1 → match okd with | none => ∀ d, z = .sh d → Q (.sh d) r G1 | some v0 => ∃ d, (∀ F, Rep X.K F d v0) ∧ Q (.sh d) r G1)
    (hx : ∀ xn G1, px xn G1 → hd xn fun d => Q (.sh d) r G1)
    (hj : k + 2 ≤ j := by omega) (hdb : (x == ("__debug__" : Str)) = false := by decide) :
    WE X (.Call (.Name x p) [.Lambda params body scope lpos] [] pos) r G Q := fun F0 T F H σ lk S => by
  obtain ⟨g, st, fd, a, Ng, Fo, hm, hbn, Sg, hNg, hva, ha1, ha2, hG⟩ := L.ex
  obtain ⟨oc, od, kV, doc, pm0, an, cdv, ct, osl, rfl, lkp, hcd⟩ := Fo.ex
  have hr2 : Room (k + 2) X.A := hr.mono hj
  intro pins s I
  refine wpAny_Call_Name_kw (ld_glob I hg hm ?_ hdb)
  refine PySem.W.callWith_K (h₀ := X.base) I.ok.mod.kin Fo.kp ?_ (by rfl) (by rfl)
  show wpAny _ _ (spliced ((false, eval (.Lambda params body scope lpos) X.env) :: backTo pos (starEach [] X.env))) _ _ s
  obtain ⟨ps, hPt, htr, hco⟩ := S.bas.gh _ _ hP
  refine Calls.spliced_cons (lam_mk I TB hcode hPt htr (fun p' cv h => by obtain ⟨c0, e1, e2⟩ := hco p' cv h; exact ⟨c0, e1, S.bas.fh _ _ e2⟩) hdef (LS.has I.ok) fun f c' pm' ctv H1 s' I1 dj hf hfn hfr hcc => ?_)
  have S1 : ∃ F1, Ex F F1 ∧ Sta X.K F0 T F1 G H1 r σ := by
    rcases dj with rfl | ⟨more, nc, ht2, ham, rfl⟩
    · exact ⟨F, Ex.refl _, S⟩
    · refine ⟨_, Ex.new (S.bas.freshF nc).1, S.tab hP nc ht2 fun p' cv hcv => ?_⟩
      rcases ham p' cv hcv with z | z
      · exact .inl (hco p' cv z)
      · exact .inr z
  obtain ⟨F1, eF, S1⟩ := S1
  refine Calls.spliced_nil ⟨I1.kIn, ?_⟩
  have rc : codeAny (model X.prog X.w) X.A (.call (.ref g) ⟨[.ref f], []⟩) (CR C8.CX0 X.stack X.prog X.w H1 s' (PostE X.K F0 T F σ Q) C8.E0) s' := by
    refine LamX.run_ofS (N := Ng) (ps := [a]) (us := [.ref f]) (vs := [.ref f]) lkp hcd Sg hr2 I1.env0 (hbn s' [.ref f] I1.kIn rfl) (.cons rfl .nil) rfl fun hr' => ?_
    have Se := S1.enter
    have key : ∃ t, PSs (zcx X.prog X.w X.K X.mg X.base Ng x (defScope st) g cdv X.A X.stack s' H1).nox (defBody st) t ∧ t { nx := fun _ H' => (PostE X.K F0 T F σ Q) .non H', rt := PostE X.K F0 T F σ Q } (L2.start Ng [.ref f]) H1 := by
      refine hG cdv (X.env.qual ++ "<lambda>") X.A X.stack s' H1 f c' (PostE X.K F0 T F σ Q)
        (fun E H' Q' => ∀ (A : Around) (outer : List Env) (s0 : Shared) (H0 : Hp), Room k (A.deeper (LamX.lamEnv X.toCx scope s0.heap.objs.size f c')) → Run (LamX.lamCx X.toCx A outer s0 H0 E scope f c') body σ H' Q')
        (fun W pn xe E p1 p2 tk hW => ?_) hcc hr'.units
        ⟨fun cls d H' => ∃ G' F' xn, Bas X.K F1 (Tof G H1) F' G' H' ∧ ExOk X.K F' cls d xn ∧ px xn G', fun A outer s0 H0 hr0 => ?_, fun cls d H' hq => ?_⟩
      · exact LamX.pe_act (i := 0) (k := k) (CXg := C8.CX0) (Eg := C8.E0) (Ng := Ng) (qg := x) (sg := defScope st) (g := g) (cdg := cdv) (p1 := p1) (p2 := p2) (E := E) (tb := fun σ' H' Q' => ∀ (A : Around) (outer : List Env) (s0 : Shared) (H0 : Hp), Room k (A.deeper (LamX.lamEnv X.toCx scope s0.heap.objs.size f c')) → Run (LamX.lamCx X.toCx A outer s0 H0 E scope f c') body σ' H' Q')
          I1 LS hf hfn hfr (hbind _ _ _ _ _) tk hW hr' (fun A outer s0 H0 hr0 => ⟨fun pins0 s1 σ1 H2 Q2 J hh => hh A outer s0 H0 hr0 pins0 s1 J⟩) hNg hva ha1 ha2
      · have tk : (X.lam A outer s0 H0 (fun cls d H' => ∃ G' F' xn, Bas X.K F1 (Tof G H1) F' G' H' ∧ ExOk X.K F' cls d xn ∧ px xn G') scope f c' F1 (Tof G H1) fun x _ G => px x G).Tk :=
          (takes_of (E := fun cls d H' => ∃ G' F' xn, Bas X.K F1 (Tof G H1) F' G' H' ∧ ExOk X.K F' cls d xn ∧ px xn G') rfl rfl rfl rfl).imp fun cls d σ' H' ⟨r', G', F', xn, S', ex, q⟩ => ⟨G', F', xn, S'.bas, ex, q⟩
        refine Run.mono (hb _ ⟨A, outer, s0, H0, _, f, c', F1, Tof G H1, hr0, tk, rfl⟩ F1 (Tof G H1) F1 H1 σ ⟨Ex.refl _, Ex.refl _, fun _ _ z => .inl z⟩ Se) fun v H' hq => ?_
        obtain ⟨z, r', G', F', eF', S', rz, hz, hp⟩ := hq
        have S2 := S1.after S'.bas
        have q := hk z G' hp
        cases okd with
        | none =>
          obtain ⟨d, rfl⟩ := hz rfl
          exact ⟨.sh d, r, G', F', eF.trans eF', S2, rz, q d rfl⟩
        | some v0 =>
          obtain ⟨d, h1, h2⟩ := q
          exact ⟨.sh d, r, G', F', eF.trans eF', S2, h1 F', h2⟩
      · obtain ⟨G', F', xn, B, ex, hp⟩ := hq
        have S2 := S1.after B
        exact ⟨F', G', xn, _, B.fh, B.gh, B.fg, ex, hx xn G' hp, fun v H'' F'' dres B2 rp hq2 => ⟨.sh dres, r, G', F'', (eF.trans B.ff).trans B2.ff, S2.after B2, rp, hq2⟩⟩
    obtain ⟨t', ht', hq'⟩ := key
    exact ⟨t', ht'.nox, hq'⟩
  refine wpAny_call (codeAny_mono rc fun res s2 hq => ?_)
  cases res with
  | error e => exact (show False from hq).elim
  | ok fl =>
    cases fl with
    | ret u => exact I1.after hq
    | next => exact False.elim hq
    | brk => exact False.elim hq
    | cont => exact False.elim hq
end

/-! ### the suite of an except clause -/
structure RoomS (A : Around) : Prop where
  units : A.units + 64 < cLine
/-- a context of the suite, the exception x at a -/
def SuiY (Z : Cx) (x : Exn) (a : Addr) (Y : Cy) : Prop := ∃ (oe : Obj) (pn : List (Addr × Obj)) (d : Option Addr) (F T : Hp), RoomS Z.A ∧ Zc x.cls d oe ∧ (∃ vs, oe.data = .fields vs) ∧ ExOk Z.K F x.cls d x ∧ Y = { Z.suite a ((a, oe) :: pn) with F0 := F, T := T, QX := fun _ _ _ => False }
theorem takes_len {X : Cx} {W : WX} (t : Takes X W) : Takes X (fun cls d σ H => σ.length = X.N.length → W cls d σ H) := fun u s' ⟨a, B, sI, pins, σ, H, cls, d, e, I, nb, up, sky, na, os, ag, w⟩ =>
  t u s' ⟨a, B, sI, pins, σ, H, cls, d, e, I, nb, up, sky, na, os, ag, w I.len⟩
/-- the slots of the suite: the exception alone -/
def excS (n i : Nat) (a : Addr) : Env2 := (List.replicate n Sl.no).set i (.sh (.adr a))
theorem sta_exc {K : PySem.W.Frag} {F : Hp} {G : GD} {H : Hp} {σ : L2.St} {n i : Nat} {a : Addr} (hl : σ.length = n) (e1 : Ex F H) (e2 : ∀ a d, G a = some d → Own K F H a d) (e3 : ∀ a o, G a = some o → F a = none) :
    Sta K F (Tof G H) F G H (excS n i a) (σ.set i (some (.ref a))) := by
  refine ⟨⟨Ex.refl _, fun _ _ z => .inl z, e1, e2, e3, fun a o z => Tof_some z, fun a o z => ?_⟩, ?_, fun j s z => ?_, fun j k d e _ z => ?_⟩
  · unfold Tof at z
    split at z
    · exact z
    · cases z
  · unfold excS
    rw [List.length_set, List.length_set, List.length_replicate, hl]
  · unfold excS at z
    by_cases hj : i = j
    · subst hj
      by_cases hi : i < n
      · rw [List.getElem?_set_self (by rw [List.length_replicate]; exact hi)] at z
        cases z
        rw [List.getElem?_set_self (by rw [hl]; exact hi)]
        exact ⟨.ref a, rfl, rfl⟩
      · rw [List.getElem?_eq_none (by rw [List.length_set, List.length_replicate]; omega)] at z
        cases z
    · rw [List.getElem?_set_ne hj, List.getElem?_replicate] at z
      split at z
      · cases z; trivial
      · cases z
  · exfalso
    unfold excS at z
    by_cases hj : i = j
    · subst hj
      by_cases hi : i < n
      · rw [List.getElem?_set_self (by rw [List.length_replicate]; exact hi)] at z
        cases z
      · rw [List.getElem?_eq_none (by rw [List.length_set, List.length_replicate]; omega)] at z
        cases z
    · rw [List.getElem?_set_ne hj, List.getElem?_replicate] at z
      split at z
      · cases z
      · cases z
section
variable {P : Program} {w : World} {K : PySem.W.Frag} {mg : Str → Option Value} {base : Heap} {Ng : List Str} {x e n a ret : Str} {sg : Scope} {g CR : Addr} {cdg : Value} {hd : Exn → (D → Prop) → Prop} {suite : List Stmt} {b0 : Stmt} {p1 p2 p3 p4 p5 p6 p7 p8 : Pos} {i j : Nat}
/-- the clause, from the suite's rows -/
theorem clause_ok {A : Around} {outer : List Env} {s : Shared} {H0 : Hp} {Q : VK} {D1 : Ends} (hu : (zcx P w K mg base Ng x sg g cdg A outer s H0).A.units + 64 < cLine) (hrt : D1.rt = Q) (hexm : ∀ x p, hd x p → PySem.W.exmOne K x.cls (.ref CR) = some true)
    (hsu : ∀ (A : Around) (outer : List Env) (s : Shared) (H : Hp) (x0 : Exn) (p : D → Prop) (ad : Addr) (G : GD) (Y : Cy), hd x0 p → SuiY (zcx P w K mg base Ng x sg g cdg A outer s H).nox x0 ad Y →
      WB Y (b0 :: suite) (excS Ng.length i ad) G { nx := fun _ _ => False, rt := fun y G' => ∃ d, y = .sh d ∧ G' = G ∧ p d })
    (cls : Value) (d : Option Addr) (σ' : L2.St) (H' : Hp) (hq : Caught K hd Q cls d H') (hl : σ'.length = Ng.length) :
    wAs K (.ref CR) i (fun ad cls d D2 σ H => ∀ (oe : Obj) (pn : List (Addr × Obj)), Zc cls d oe → (∃ vs, oe.data = .fields vs) → RunB ((zcx P w K mg base Ng x sg g cdg A outer s H0).nox.suite ad ((ad, oe) :: pn)) (b0 :: suite) D2 σ H) (fun _ _ _ _ => False) D1 cls d σ' H' := by
  obtain ⟨F', G', xn, p, k1, k2, k3, ex, hh, hf⟩ := hq
  have ec : xn.cls = cls := ex.1
  refine ⟨true, by rw [← ec]; exact hexm xn p hh, fun _ ad na oe pn hz hv => ?_, fun z => by cases z⟩
  have Y := hsu A outer s H0 xn p ad G' { (zcx P w K mg base Ng x sg g cdg A outer s H0).nox.suite ad ((ad, oe) :: pn) with F0 := F', T := Tof G' H', QX := fun _ _ _ => False } hh ⟨oe, pn, d, F', Tof G' H', ⟨hu⟩, by rw [ec]; exact hz, hv, by rw [ec]; exact ex, rfl⟩
  refine (Y F' (Tof G' H') F' H' (σ'.set i (some (.ref ad))) ⟨Ex.refl _, Ex.refl _, fun _ _ z => .inl z⟩ (sta_exc hl k1 k2 k3)).mono (fun σ2 H2 ⟨_, _, _, _, z⟩ => z.elim) (fun v H2 ⟨y, G2, F2, B, rt, dd, hy, hg, hp⟩ => ?_) (fun σ2 H2 ⟨_, _, _, _, z⟩ => z.elim) (fun σ2 H2 ⟨_, _, _, _, z⟩ => z.elim)
  subst hy hg
  show D1.rt v H2
  rw [hrt]
  exact hf v H2 F2 dd B rt hp
/-- try: a() / except e as n: suite / return ret -/
theorem give_err (hi : Ng[i]? = some n) (nd : Ng.Nodup) (hln : sg.names.lookup n = some .local) (hge : sg.names.lookup e = some .globalImplicit) (hme : mg e = some (.ref CR)) (hde : (e == ("__debug__" : Str)) = false) (hNa : Ng[0]? = some a)
    (hexm : ∀ x p, hd x p → PySem.W.exmOne K x.cls (.ref CR) = some true)
    (hsu : ∀ (A : Around) (outer : List Env) (s : Shared) (H : Hp) (x0 : Exn) (p : D → Prop) (ad : Addr) (G : GD) (Y : Cy), hd x0 p → SuiY (zcx P w K mg base Ng x sg g cdg A outer s H).nox x0 ad Y →
      WB Y (b0 :: suite) (excS Ng.length i ad) G { nx := fun _ _ => False, rt := fun y G' => ∃ d, y = .sh d ∧ G' = G ∧ p d })
    (hsw : ∀ env : Env, swapsWith (.Call (.Name a p1) [] [] p2) none p3.line env = pure false := by intro _; rfl) :
    GivE P w K mg base Ng x sg g cdg [.Try [.Expr (.Call (.Name a p1) [] [] p2) p3] [.ExceptHandler (some (.Name e p4)) (some n) (b0 :: suite) p5] [] [] p6, .Return (some (.Constant (.str ret) j p7)) p8] a (some (.str ret)) hd := by
  intro q A outer s H f c' Q tl act hc hu ⟨Ech, h1, h3⟩
  have hgl : Gl (zcx P w K mg base Ng x sg g cdg A outer s H).nox e := hge
  have h0 : (L2.start Ng [V.ref f])[0]? = some (some (V.ref f)) := rfl
  refine ⟨_, pss_cons (ps_try_as (X := (zcx P w K mg base Ng x sg g cdg A outer s H).nox) (c := .ref CR) (i := i)
      (tb := fun W D σ H' => ∃ Ech : XK, (∀ cls d σ' H', Ech cls d H' → σ'.length = Ng.length → W cls d σ' H') ∧ σ[0]? = some (some (.ref f)) ∧ H' c' = some (LamX.CodeO c' q) ∧ tl Ech H' (fun _ H' => D.nx σ H'))
      (ts := fun ad cls d D2 σ H' => ∀ (oe : Obj) (pn : List (Addr × Obj)), Zc cls d oe → (∃ vs, oe.data = .fields vs) → RunB ((zcx P w K mg base Ng x sg g cdg A outer s H).nox.suite ad ((ad, oe) :: pn)) (b0 :: suite) D2 σ H')
      rfl rfl nd hi hln ⟨hgl, hde, .inl hme⟩ LamX.takes0 (fun W pn xe tk _ => ?_) (fun ad oe cls d pn hz hv => ⟨fun pins s' σ H' D I h' => ?_⟩)) (pss_one (ps_ret pe_str)), ?_⟩
  · refine ⟨fun pins s' σ H' D I h' => ?_⟩
    obtain ⟨Ech', hW, k1, k2, k3⟩ := h'
    have hp := act _ pn xe Ech' p1 p2 (takes_len tk) (fun cls d σ' H' z => hW cls d σ' H' z)
    exact (pss_one (ps_expr (pos := p3) hp (hsw _))).run pins s' σ H' D I ⟨k1, k2, k3⟩
  · exact h' oe pn hz hv pins s' I
  · exact ⟨Ech, fun cls d σ' H' z hl => clause_ok hu rfl hexm hsu cls d σ' H' (h3 cls d H' z) hl, h0, hc, h1⟩
/-- try: return a() / except e as n: suite -/
theorem give_fail (hi : Ng[i]? = some n) (nd : Ng.Nodup) (hln : sg.names.lookup n = some .local) (hge : sg.names.lookup e = some .globalImplicit) (hme : mg e = some (.ref CR)) (hde : (e == ("__debug__" : Str)) = false) (hNa : Ng[0]? = some a)
    (hexm : ∀ x p, hd x p → PySem.W.exmOne K x.cls (.ref CR) = some true)
    (hsu : ∀ (A : Around) (outer : List Env) (s : Shared) (H : Hp) (x0 : Exn) (p : D → Prop) (ad : Addr) (G : GD) (Y : Cy), hd x0 p → SuiY (zcx P w K mg base Ng x sg g cdg A outer s H).nox x0 ad Y →
      WB Y (b0 :: suite) (excS Ng.length i ad) G { nx := fun _ _ => False, rt := fun y G' => ∃ d, y = .sh d ∧ G' = G ∧ p d }) :
    GivE P w K mg base Ng x sg g cdg [.Try [.Return (some (.Call (.Name a p1) [] [] p2)) p3] [.ExceptHandler (some (.Name e p4)) (some n) (b0 :: suite) p5] [] [] p6] a none hd := by
  intro q A outer s H f c' Q tl act hc hu ⟨Ech, h1, h3⟩
  have hgl : Gl (zcx P w K mg base Ng x sg g cdg A outer s H).nox e := hge
  have h0 : (L2.start Ng [V.ref f])[0]? = some (some (V.ref f)) := rfl
  refine ⟨_, pss_one (ps_try_as (X := (zcx P w K mg base Ng x sg g cdg A outer s H).nox) (c := .ref CR) (i := i)
      (tb := fun W D σ H' => ∃ Ech : XK, (∀ cls d σ' H', Ech cls d H' → σ'.length = Ng.length → W cls d σ' H') ∧ σ[0]? = some (some (.ref f)) ∧ H' c' = some (LamX.CodeO c' q) ∧ tl Ech H' D.rt)
      (ts := fun ad cls d D2 σ H' => ∀ (oe : Obj) (pn : List (Addr × Obj)), Zc cls d oe → (∃ vs, oe.data = .fields vs) → RunB ((zcx P w K mg base Ng x sg g cdg A outer s H).nox.suite ad ((ad, oe) :: pn)) (b0 :: suite) D2 σ H')
      rfl rfl nd hi hln ⟨hgl, hde, .inl hme⟩ LamX.takes0 (fun W pn xe tk _ => ?_) (fun ad oe cls d pn hz hv => ⟨fun pins s' σ H' D I h' => ?_⟩)), ?_⟩
  · refine ⟨fun pins s' σ H' D I h' => ?_⟩
    obtain ⟨Ech', hW, k1, k2, k3⟩ := h'
    have hp := act _ pn xe Ech' p1 p2 (takes_len tk) (fun cls d σ' H' z => hW cls d σ' H' z)
    exact (pss_one (ps_ret (pos := p3) hp)).run pins s' σ H' D I ⟨k1, k2, k3⟩
  · exact h' oe pn hz hv pins s' I
  · exact ⟨Ech, fun cls d σ' H' z hl => clause_ok hu rfl hexm hsu cls d σ' H' (h3 cls d H' z) hl, h0, hc, h1⟩
end
/-! ### isinstance of the exception; its fields -/
section
variable {Z : Cx} {a0 : Addr} {oe : Obj} {pn : List (Addr × Obj)} {C D1 : Addr} {d : Option Addr}
def rIsX (K : PySem.W.Frag) (D a : Addr) (d : Option Addr) : List V → Hp → VK → Prop := fun xs H Q => ∃ (c : V) (cv : Value) (b : Bool), xs = [.ref a, c] ∧ (∀ u, RelV c u → u = cv) ∧ PySem.W.kitOne K (.ref D) cv = some b ∧ (d = none ∨ ∃ dd fs, d = some dd ∧ H dd = some (.xd fs)) ∧ Q (.bl b) H
theorem call_isX (T : ExcC Z.K D1) (hz : Zc (.ref D1) d oe) (hf : ∃ vs, oe.data = .fields vs) : CallR (Z.suite a0 ((a0, oe) :: pn)) (.builtin "isinstance") (rIsX Z.K D1 a0 d) := by
  intro pins s σ H xs us Q I r h
  obtain ⟨c, cv, b, rfl, hcv, e, hdd, q⟩ := h
  cases r with
  | cons rx rr =>
    cases rr with
    | cons rt rr =>
      cases rr
      cases rx
      have ec := hcv _ rt
      subst ec
      obtain ⟨hget, _⟩ := I.pin (a0, oe) (List.mem_append.mpr (.inl List.mem_cons_self))
      obtain ⟨vs, hv⟩ := hf
      obtain ⟨cd, hcl, _⟩ := PySem.W.any_some T.hd
      have hcs : (PySem.W.clsIn Z.K D1).isSome = true := by rw [hcl]; rfl
      have J : ∃ od, PySem.W.InstAt s.heap a0 oe D1 od := by
        rcases hdd with h0 | ⟨dd, fs, h1, h2⟩
        · exact ⟨none, hget, hz.1, by unfold PySem.W.notCls; rw [hv] <;> rfl, by rw [hz.2, h0]; exact True.intro⟩
        · have hx : ObjOk Z.prog Z.w H s.heap dd (.xd fs) := I.hok dd _ h2
          obtain ⟨mA, hns, _⟩ := hx
          obtain ⟨od, ho, _⟩ := lookIn_ns hns
          exact ⟨some od, hget, hz.1, by unfold PySem.W.notCls; rw [hv] <;> rfl, by rw [hz.2, h1]; exact ho⟩
      obtain ⟨od, J⟩ := J
      exact PySem.W.kia_one (PySem.W.kitx_exc hcs T.hg T.hk T.hs T.ha T.hn T.ht T.hm) I.kIn J e (fun z => nomatch z) fun tk => ⟨.bl b, H, I.kept (t' := tk) fun _ _ z => z, rfl, q⟩
end
section
variable {Z : Cx} {x0 : Exn} {a0 : Addr} {Y : Cy} {oe : Obj} {pn : List (Addr × Obj)} {d : Option Addr} {F1 T1 : Hp} {r : Env2} {G : GD} {a : Expr} {pos p0 : Pos}
theorem ExOk.dict {K : PySem.W.Frag} {F H : Hp} {cls : Value} {d : Option Addr} {x : Exn} (h : ExOk K F cls d x) (e : Ex F H) : d = none ∨ ∃ dd fs, d = some dd ∧ H dd = some (.xd fs) := by
  obtain ⟨_, ⟨h2, h3⟩ | ⟨a, vs, h2, h3, h4⟩⟩ := h
  · exact .inl h2
  · exact .inr ⟨a, _, h2, e _ _ h3⟩
theorem we_isX {x y : Str} {C C' : Addr} {py : Pos} {Q : Res → Env2 → GD → Prop} (T : ExcC Z.K C) (hz : Zc (.ref C) d oe) (hf : ∃ vs, oe.data = .fields vs) (ex : ExOk Z.K F1 (.ref C) d x0)
    (hg : Gl Z x) (hm : Z.mg x = none) (hv : bootBuiltins x = some (.builtin "isinstance")) (hg2 : Gl Z y) (hm2 : Z.mg y = some (.ref C'))
    (h : WE { Z.suite a0 ((a0, oe) :: pn) with F0 := F1, T := T1, QX := fun _ _ _ => False } a r G fun z r1 G1 => ∃ c, z = .sh (.adr a0) ∧ PySem.W.kitOne Z.K (.ref C) (.ref C') = some c ∧ Q (.sh (.bl c)) r1 G1)
    (hn : x ≠ "__name__" := by decide) (hdb : (x == ("__debug__" : Str)) = false := by decide) (hdb2 : (y == ("__debug__" : Str)) = false := by decide)
    (he : starEach [a, .Name y py] Z.env = (false, eval a Z.env) :: starEach [.Name y py] Z.env := by rfl) (he2 : starEach [.Name y py] Z.env = (false, eval (.Name y py) Z.env) :: starEach [] Z.env := by rfl) (hpl : (backTo pos (starEach [.Name y py] Z.env)).any (·.1) = false := by rfl) :
    WE { Z.suite a0 ((a0, oe) :: pn) with F0 := F1, T := T1, QX := fun _ _ _ => False } (.Call (.Name x p0) [a, .Name y py] [] pos) r G Q := fun F0 T' F H σ lk S =>
  Run.of (pe_callB (call_isX T hz hf) hg hm hv (pa_cons peR (pa_cons (pe_glob (v := .ref C') hg2 hm2 rfl hdb2) pa_nil he2) he) hn hdb he hpl) ((h F0 T' F H σ lk S).mono fun v H1 ⟨z, r1, G1, F2, e1, S1, k1, c, q1, q3, q4⟩ => by
    subst q1
    cases (show v = .ref a0 from k1)
    exact ⟨.ref C', .ref C', c, rfl, fun w hw => hw, q3, ex.dict ((lk.f.trans S1.bas.ff).trans S1.bas.fh), .sh (.bl c), r1, G1, F2, e1, S1, rfl, q4⟩)
theorem we_isXt {x y : Str} {n : String} {C : Addr} {py : Pos} {Q : Res → Env2 → GD → Prop} (T : ExcC Z.K C) (hz : Zc (.ref C) d oe) (hf : ∃ vs, oe.data = .fields vs) (ex : ExOk Z.K F1 (.ref C) d x0)
    (hg : Gl Z x) (hm : Z.mg x = none) (hv : bootBuiltins x = some (.builtin "isinstance")) (hg2 : Gl Z y) (hm2 : Z.mg y = none) (hv2 : bootBuiltins y = some (.type n))
    (h : WE { Z.suite a0 ((a0, oe) :: pn) with F0 := F1, T := T1, QX := fun _ _ _ => False } a r G fun z r1 G1 => ∃ c, z = .sh (.adr a0) ∧ PySem.W.kitOne Z.K (.ref C) (.type n) = some c ∧ Q (.sh (.bl c)) r1 G1)
    (hn : x ≠ "__name__" := by decide) (hdb : (x == ("__debug__" : Str)) = false := by decide) (hn2 : y ≠ "__name__" := by decide) (hdb2 : (y == ("__debug__" : Str)) = false := by decide)
    (he : starEach [a, .Name y py] Z.env = (false, eval a Z.env) :: starEach [.Name y py] Z.env := by rfl) (he2 : starEach [.Name y py] Z.env = (false, eval (.Name y py) Z.env) :: starEach [] Z.env := by rfl) (hpl : (backTo pos (starEach [.Name y py] Z.env)).any (·.1) = false := by rfl) :
    WE { Z.suite a0 ((a0, oe) :: pn) with F0 := F1, T := T1, QX := fun _ _ _ => False } (.Call (.Name x p0) [a, .Name y py] [] pos) r G Q := fun F0 T' F H σ lk S =>
  Run.of (pe_callB (call_isX T hz hf) hg hm hv (pa_cons peR (pa_cons (pe_bltn (v := .ty n) hg2 hm2 hv2 rfl hn2 hdb2) pa_nil he2) he) hn hdb he hpl) ((h F0 T' F H σ lk S).mono fun v H1 ⟨z, r1, G1, F2, e1, S1, k1, c, q1, q3, q4⟩ => by
    subst q1
    cases (show v = .ref a0 from k1)
    exact ⟨.ty n, .type n, c, rfl, fun w hw => hw, q3, ex.dict ((lk.f.trans S1.bas.ff).trans S1.bas.fh), .sh (.bl c), r1, G1, F2, e1, S1, rfl, q4⟩)
/-- e.f -/
theorem we_xf {f : Str} {C : Addr} {Q : Res → Env2 → GD → Prop} (T : XfC Z.K C) (hno : PySem.W.findIn Z.K (.ref C) f = some none) (hz : Zc (.ref C) d oe) (hf : ∃ vs, oe.data = .fields vs) (ex : ExOk Z.K F1 (.ref C) d x0) {dv : D} (hne : x0.fs ≠ []) (hfs : x0.fs.lookup f = some dv)
    (h : WE { Z.suite a0 ((a0, oe) :: pn) with F0 := F1, T := T1, QX := fun _ _ _ => False } a r G fun z r1 G1 => z = .sh (.adr a0) ∧ Q (.sh dv) r1 G1)
    (hb : attributeBase a f Z.env (eval a Z.env) = eval a Z.env := by rfl) :
    WE { Z.suite a0 ((a0, oe) :: pn) with F0 := F1, T := T1, QX := fun _ _ _ => False } (.Attribute a f pos) r G Q := fun F0 T' F H σ lk S =>
  Run.of (pe_xf T hno hz hf peR hb) ((h F0 T' F H σ lk S).mono fun v H1 ⟨z, r1, G1, F2, e1, S1, k1, q1, q4⟩ => by
    subst q1
    cases (show v = .ref a0 from k1)
    obtain ⟨_, ⟨_, h3⟩ | ⟨dd, vs, h2, h3, h4⟩⟩ := ex
    · exact absurd h3 hne
    have g1 := lk.f.trans S1.bas.ff
    have key : ∀ (fs : List (Str × D)) (vs : List V), RepL Z.K F1 (fs.map (·.2)) vs → fs.lookup f = some dv → ∃ v, ((fs.map (·.1)).zip vs).lookup f = some v ∧ Rep Z.K F1 dv v := by
      intro fs
      induction fs with
      | nil => intro vs _ hl; cases hl
      | cons q fs ih =>
        intro vs hr hl
        obtain ⟨v, r', rfl, h5, h6⟩ := hr
        obtain ⟨n, dq⟩ := q
        simp only [List.map_cons, List.zip_cons_cons, List.lookup_cons] at hl ⊢
        cases hh : (f == n) with
        | true => rw [hh] at hl; cases hl; exact ⟨v, rfl, h5⟩
        | false => rw [hh] at hl; exact ih r' h6 hl
    obtain ⟨v, hl, hr⟩ := key _ _ h4 hfs
    exact ⟨rfl, rfl, dd, _, v, h2, (g1.trans S1.bas.fh) _ _ h3, hl, .sh dv, r1, G1, F2, e1, S1, Rep.mono g1 _ _ hr, q4⟩)
end

/-! ### a def whose code object is known -/
section
variable {P : Program} {w : World} {K : PySem.W.Frag} {mg : Str → Option Value} {base : Heap}
theorem def_okC {x qual : Str} {st : Stmt} {f c : Addr} {fd : FuncData} {N ps : List Str} {k : Nat} {sp : FSp} (Fo : Fun K x qual st f fd) (hc : fd.code = .ref c) (S : FnScope N ps (defScope st)) (len : ∀ ds G post px, sp ds G post px → ds.length = ps.length)
    (hbody : ∀ (A : Around) (outer : List Env) (s : Shared) (H : Hp) (E : XK) (F T : Hp), Room k (A.deeper (envOfC qual (defScope st) s.heap.objs.size f (.ref c))) → ∀ (ds : List D) (G : GD) (post : Res → GD → Prop) (px : Exn → GD → Prop), sp ds G post px →
      (cyOf P w K mg base N qual (defScope st) f (.ref c) A outer s H E F T px).Tk → PassesOwn (model P w) (cyOf P w K mg base N qual (defScope st) f (.ref c) A outer s H E F T px).A (cyOf P w K mg base N qual (defScope st) f (.ref c) A outer s H E F T px).env (cyOf P w K mg base N qual (defScope st) f (.ref c) A outer s H E F T px).xe →
      WB (cyOf P w K mg base N qual (defScope st) f (.ref c) A outer s H E F T px) (defBody st) (startD N ds) G { nx := fun _ G' => post (.sh .non) G', rt := post }) : FnOk P w K mg base (L2.CX P w) (k + 1) f fd ps (spD K sp) := by
  obtain ⟨oc, od, kV, doc, pm, an, cdv, ct, osl, hfd, lk, hcd⟩ := Fo.ex
  have ec : cdv = .ref c := by rw [hfd] at hc; exact hc
  subst hfd
  subst ec
  refine fn_of lk hcd S (fun vs H Q E h => ?_) (fun A outer s H vs Q E hr h => ?_)
  · obtain ⟨F, G, ds, post, px, _, _, _, rp, hf, _⟩ := h
    rw [rp.length, len ds G post px hf]
  · obtain ⟨F, G, ds, post, px, e1, e2, e3, rp, hf, hq, hx⟩ := h
    have hl : ds.length ≤ N.length := by
      rw [len ds G post px hf]
      have := congrArg List.length S.pre
      rw [List.length_take] at this
      omega
    refine ⟨RunB _ (defBody st), pbR, ?_⟩
    have tk : (cyOf P w K mg base N qual (defScope st) f (.ref c) A outer s H E F (Tof G H) px).Tk := (takes_of (E := E) rfl rfl rfl rfl).imp fun cls d σ H' ⟨r, G', F', x, S', ex, q⟩ => hx x cls d G' H' F' q S'.bas ex
    refine (hbody A outer s H E F (Tof G H) hr ds G post px hf tk (passes_of rfl) F (Tof G H) F H (L2.start N vs) ⟨Ex.refl _, Ex.refl _, fun _ _ z => .inl z⟩ (sta_start hl e1 e2 e3 rp)).mono (fun σ' H' ⟨r', G', F', S', q⟩ => ?_) (fun v H' ⟨x, G', F', B, rt, q⟩ => hq x G' v H' F' q B rt) (fun _ _ ⟨_, _, _, _, q⟩ => q) (fun _ _ ⟨_, _, _, _, q⟩ => q)
    exact hq (.sh .non) G' .non H' F' q S'.bas rfl
end
/-! ### a law with lambdas -/
def FLawT (P : Addr) (q : Str) (f : List Int → Out Bool) : FSp := fun ds G post _ => ∃ ns, ds = [.scr ns] ∧ G P = some (.tab q) ∧ (f ns).sat (fun v => ∀ G', post (.sh (.bl v)) G') (fun _ => False)
theorem bxG_tab {G0 : GD} {b g P : Addr} {q : Str} {x : Bx} (h : G0 P = some (.tab q)) (hb : G0 b = none) (hg : G0 g = none) : bxG G0 b g x P = some (.tab q) := by
  have h1 : P ≠ b := fun z => by rw [z, hb] at h; cases h
  have h2 : P ≠ g := fun z => by rw [z, hg] at h; cases h
  unfold bxG
  rw [updG_ne h1, updG_ne h2]; exact h
theorem bxH_tab {G0 : GD} {b g P : Addr} {q : Str} {x : Bh} (h : G0 P = some (.tab q)) (hb : G0 b = none) (hg : G0 g = none) : bxH G0 b g x P = some (.tab q) := by
  have h1 : P ≠ b := fun z => by rw [z, hb] at h; cases h
  have h2 : P ≠ g := fun z => by rw [z, hg] at h; cases h
  unfold bxH
  rw [updG_ne h1, updG_ne h2]; exact h
theorem law_spT {K : PySem.W.Frag} {H : Hp} {a P : Addr} {q : Str} {ns : List Int} {m : List Int → Out Bool} (hT : H P = some (.tbl #[])) (hS : SqL K H a (ns.map V.int)) (ht : m ns = .ok true) : spD K (FLawT P q m) [.ref a] H (fun v _ => v = .bl true) fun _ _ _ => False := by
  have hne : ∀ {u : HO}, H a = some u → (∀ ps, u ≠ .tbl ps) → a ≠ P := fun {u} e n z => by
    subst z
    rw [hT] at e
    cases e
    exact n _ rfl
  refine ⟨fun b => if b = P then none else H b, fun b => if b = P then some (.tab q) else none, [.scr ns], fun x _ => x = .sh (.bl true), fun _ _ => False, fun b o h => ?_, fun b d h => ?_, fun b o h => ?_, ⟨_, _, rfl, ⟨a, rfl, ?_⟩, rfl⟩, ⟨ns, rfl, if_pos rfl, by rw [ht]; exact fun _ => rfl⟩, fun x G' v H' F' hp B rt => by subst hp; exact rt, fun _ _ _ _ _ _ z => z.elim⟩
  · have h : (if b = P then none else H b) = some o := h
    split at h
    · cases h
    · exact h
  · have h2 : (if b = P then some (D.tab q) else none) = some d := h
    clear h
    by_cases e : b = P
    · rw [if_pos e] at h2
      cases h2
      rw [e]
      exact ⟨#[], hT, True.intro, fun pos cv hc => by
        have z : codeAmong pos [] = some cv := hc
        simp [codeAmong] at z⟩
    · rw [if_neg e] at h2; cases h2
  · have h : (if b = P then some (D.tab q) else none) = some o := h
    by_cases e : b = P
    · exact if_pos e
    · rw [if_neg e] at h; cases h
  · rcases hS with (h | ⟨o, h⟩) | h
    · exact .inl (.inl (by show (if a = P then none else H a) = _; rw [if_neg (hne h fun ps z => by cases z)]; exact h))
    · exact .inl (.inr ⟨o, by show (if a = P then none else H a) = _; rw [if_neg (hne h fun ps z => by cases z)]; exact h⟩)
    · exact .inr h
theorem walkT {l : PySem.W.OpenLaw} {q : Program} {loose : List Str} {XP : (Str → Option Value) → Heap → Prop} {YP : World → Heap → Prop} {d : DefRec} {K : Params → PySem.W.Frag} {m : List Int → Out Bool} {k : Nat} {qn : Str} (hn : l.most = some 63) (hdf : d.params.defaults = []) (hr : Room k callerA)
    (hrec : ((recsOf q).any fun e => e.name == d.name) = true) (hY : ∀ (w : World) (h : Heap), YP w h → (K w.params).In h) (hm : ∀ ns : List Int, ns.length ≤ 63 → m ns = .ok true)
    (F : ∀ (w : World) (mg : Str → Option Value) (fa : Addr) (h : Heap), (K w.params).In h → h.Ns mainGlobals mg → mg d.name = some (.ref fa) →
      ∃ (fd : FuncData) (c P : Addr) (e0 : Value) (d0 : Option Addr) (vs0 : Array Value) (sl0 : Array (Option Value)) (o : Obj), (K w.params).lookup fa = some o ∧ o.data = .func fd ∧ fd.code = .ref c ∧ (K w.params).lookup c = some ⟨e0, d0, .fields vs0, sl0⟩ ∧ vs0[11]? = some (.ref P) ∧ (K w.params).lookup P = none ∧ PySem.W.codeHdIn (K w.params) c P = true ∧
        (∀ (s : Shared) (u : Value), BindsTo s fd ⟨[u], []⟩ [("_law_script", u)]) ∧ ∀ base : Heap, (K w.params).In base → base.Ns mainGlobals mg → LamX.TabB base mg c P → FnOk l.prog w (K w.params) mg base (L2.CX l.prog w) k fa fd ["_law_script"] (spD (K w.params) (FLawT P qn m))) :
    PySem.W.WalkO q loose XP YP l.row.toRowW d [] (fun f vs => PySem.call f vs) := by
  refine LamX.walk_ofOwn (n := 63) (k := k) (x := "_law_script") (CX := fun w => L2.CX l.prog w) hn (by decide) hdf hr hrec hY (fun w mg fa h Y KX G hmg own => ?_) fun w H s e s' h => by
    obtain ⟨_, _, _, _, _, _, _, _, _, _, _, _, z⟩ := h
    exact z
  obtain ⟨fd, c, P, e0, d0, vs0, sl0, o, h1, h2, h3, h4, h5, h6, h7, hb, hF⟩ := F w mg fa h KX G hmg
  refine ⟨fd, [(c, P)], spD (K w.params) (FLawT P qn m), fun p hp => ?_, fun p hp => ?_, fun p hp => ?_, hb, fun H a ns hl _ hT hS => ?_, fun base k1 k2 k3 => hF base k1 k2 (k3 (c, P) List.mem_cons_self)⟩
  · cases List.mem_singleton.mp hp
    exact own c P o fd e0 d0 vs0 sl0 h1 h2 h3 h4 h5
  · cases List.mem_singleton.mp hp
    exact h6
  · cases List.mem_singleton.mp hp
    exact PySem.W.codeHd_of_K KX h7
  · exact law_spT (hT (c, P) List.mem_cons_self) hS (hm ns hl)

open Out (Rt)
/-! ### a whole number or a truth value -/
inductive IB where
  | i (n : Int) | b (x : Bool)
deriving DecidableEq
abbrev eIB : IB → D := fun v => match v with
  | .i n => .int n
  | .b x => .bl x
def IB.int? : IB → Option Int
  | .i n => some n
  | .b _ => none
@[simp] theorem IB.int?_i (n : Int) : (IB.i n).int? = some n := rfl
@[simp] theorem IB.int?_b (x : Bool) : (IB.b x).int? = none := rfl
/-! ### what a def that catches tells -/
inductive Er where
  | s (x : S) | si (x : S) (i : Int) | so (x : S) (o : Option S) | ssi (x y : S) (i : Int) | t (b : Bool)
deriving DecidableEq
abbrev eEr : Er → D := fun v => match v with
  | .s x => eZ x
  | .si x i => .tup [eZ x, .int i]
  | .so x o => .tup [eZ x, eO eZ o]
  | .ssi x y i => .tup [eZ x, eZ y, .int i]
  | .t b => .bl b
theorem eqc_er : EqC eEr 1 := by
  have sn : ∀ x : S, eqD .non (eZ x) = false := fun _ => rfl
  have ns : ∀ x : S, eqD (eZ x) .non = false := fun _ => rfl
  refine ⟨fun a => ?_, fun a b => ?_⟩
  · cases a with
    | s x => exact okD_mono (eqc_str.ok x) (by decide)
    | si x i => exact (eqc_pair eqc_str eqc_int).ok (x, i)
    | so x o => exact (eqc_pair eqc_str (eqc_opt eqc_str sn ns)).ok (x, o)
    | ssi x y i => exact (eqc_trip eqc_str eqc_str eqc_int).ok (x, y, i)
    | t b => exact okD_mono (eqc_bool.ok b) (by decide)
  · cases a with
    | s x =>
      cases b with
      | s y => exact (eqc_str.eq x y).trans (by simp)
      | _ => exact ⟨fun h => (by cases h), fun h => (by cases h)⟩
    | si x i =>
      cases b with
      | si y j => exact ((eqc_pair eqc_str eqc_int).eq (x, i) (y, j)).trans (by simp)
      | so y o =>
        refine ⟨fun h => ?_, fun h => (by cases h)⟩
        have h : (PyData.eqv (.str x.1) (.str y.1) && (PyData.eqv (toP (.int i)) (toP (eO eZ o)) && true)) = true := h
        cases o with
        | none => simp [PyData.eqv, toP] at h
        | some z => simp [PyData.eqv, toP] at h
      | ssi y z j =>
        refine ⟨fun h => ?_, fun h => (by cases h)⟩
        have h : (PyData.eqv (.str x.1) (.str y.1) && (PyData.eqv (.int i) (.str z.1) && false)) = true := h
        simp at h
      | _ => exact ⟨fun h => (by cases h), fun h => (by cases h)⟩
    | so x o =>
      cases b with
      | so y p => exact ((eqc_pair eqc_str (eqc_opt eqc_str sn ns)).eq (x, o) (y, p)).trans (by simp)
      | si y j =>
        refine ⟨fun h => ?_, fun h => (by cases h)⟩
        have h : (PyData.eqv (.str x.1) (.str y.1) && (PyData.eqv (toP (eO eZ o)) (toP (.int j)) && true)) = true := h
        cases o with
        | none => simp [PyData.eqv, toP] at h
        | some z => simp [PyData.eqv, toP] at h
      | ssi y z j =>
        refine ⟨fun h => ?_, fun h => (by cases h)⟩
        have h : (PyData.eqv (.str x.1) (.str y.1) && (PyData.eqv (toP (eO eZ o)) (.str z.1) && false)) = true := h
        simp at h
      | _ => exact ⟨fun h => (by cases h), fun h => (by cases h)⟩
    | ssi x y i =>
      cases b with
      | ssi x' y' j => exact ((eqc_trip eqc_str eqc_str eqc_int).eq (x, y, i) (x', y', j)).trans (by simp)
      | si z j =>
        refine ⟨fun h => ?_, fun h => (by cases h)⟩
        have h : (PyData.eqv (.str x.1) (.str z.1) && (PyData.eqv (.str y.1) (.int j) && false)) = true := h
        simp at h
      | so z o =>
        refine ⟨fun h => ?_, fun h => (by cases h)⟩
        have h : (PyData.eqv (.str x.1) (.str z.1) && (PyData.eqv (.str y.1) (toP (eO eZ o)) && false)) = true := h
        simp at h
      | _ => exact ⟨fun h => (by cases h), fun h => (by cases h)⟩
    | t x =>
      cases b with
      | t y => exact (eqc_bool.eq x y).trans (by simp)
      | _ => exact ⟨fun h => (by cases h), fun h => (by cases h)⟩
/-! ### what is caught -/
def Out.caught {α ρ : Type} (v0 : ρ) (hd : Xm → Option ρ) (m : Out α) : Out ρ := match m with
  | .ok _ => .ok v0
  | .ex x => Out.get (hd x)
  | .no => .no
def hdOf (cx : Nat → Addr) {ρ : Type} (er : ρ → D) (hd : Xm → Option ρ) : Exn → (D → Prop) → Prop := fun xn p => ∃ x v, xn = xnOf cx x ∧ hd x = some v ∧ p (er v)
section
variable {X : Cy} {e body : Expr} {r : Env2} {G : GD} {p pos lpos : Pos} {cx : Nat → Addr} {α β ρ : Type}
theorem we_num {Q : Res → Env2 → GD → Prop} (h : WE X e r G fun z r1 G1 => ∃ (x : IB) (y : Int), z = .sh (eIB x) ∧ x.int? = some y ∧ Q (.sh (.int y)) r1 G1) : WE X e r G Q :=
  h.mono fun z r1 G1 ⟨x, y, h1, h2, q⟩ => by
    subst h1
    cases x with
    | i n => cases h2; exact q
    | b x => cases h2
/-- x(lambda: body), x a def that catches: the box is not touched -/
theorem we_lerr {x : Str} {v0 : ρ} {w0 : V} {hdm : Xm → Option ρ} {c P : Addr} {k j : Nat} {params : Arguments} {scope : Scope} {m : Out α} {f : ρ → Out β} {Q0 : β → Prop} {E0 : Xm → Prop} {Q : Res → Env2 → GD → Prop} (er : ρ → D) (h : ((Out.caught v0 hdm m).bind f).sat Q0 E0)
    (L : LErr X.prog X.w X.K X.mg X.base x (some w0) (hdOf cx er hdm)) (hg : Gl X x) (TB : LamX.TabB X.base X.mg c P) (hcode : X.env.code = .ref c) (hP : G P = some (.tab (X.env.qual ++ "<lambda>"))) (hr : Room j X.A) (hw0 : ∀ F, Rep X.K F (er v0) w0) (LS : LamX.LamS X.env.scope scope) (hdef : defaultsOf params X.env = ([], []))
    (hbind : ∀ (q : Str) (cl : List (Str × Addr)) (pm cv ctv : Value), bindArgs (PySem.W.kla_fn "<lambda>" q params body scope cl pm cv ctv) ⟨[], []⟩ = pure [])
    (hb : ∀ (Y : Cy) (Q' : α → Prop) (E' : Xm → Prop), LamY X scope k (fun xn G1 => G1 = G ∧ ∃ x, xn = xnOf cx x ∧ E' x) Y → m.sat Q' E' → WE Y body (hide r) G fun _ _ G1 => G1 = G ∧ ∃ a, Q' a)
    (hk : ∀ v, (f v).sat Q0 E0 → Q (.sh (er v)) r G) (hj : k + 2 ≤ j := by omega) (hdb : (x == ("__debug__" : Str)) = false := by decide) :
    WE X (.Call (.Name x p) [.Lambda params body scope lpos] [] pos) r G Q := by
  refine we_lam L hg TB hcode hP hr LS hdef hbind (fun _ G1 => G1 = G ∧ ∃ _ : α, (f v0).sat Q0 E0) (fun xn G1 => G1 = G ∧ ∃ x, xn = xnOf cx x ∧ ∃ v, hdm x = some v ∧ (f v).sat Q0 E0) (fun Y hY => ?_) (fun z G1 hz => ?_) (fun xn G1 hz => ?_) hj hdb
  · refine (hb Y (fun _ => (f v0).sat Q0 E0) (fun x => ∃ v, hdm x = some v ∧ (f v).sat Q0 E0) hY ?_).mono fun z r1 G1 ⟨h1, a, h2⟩ => ⟨fun h => (by cases h), h1, a, h2⟩
    cases m with
    | ok a => exact h
    | ex x =>
      have h : ((Out.get (hdm x)).bind f).sat Q0 E0 := h
      cases hh : hdm x with
      | none => rw [hh] at h; exact h.elim
      | some v => rw [hh] at h; exact ⟨v, hh, h⟩
    | no => exact h
  · obtain ⟨rfl, _, hz⟩ := hz
    exact ⟨er v0, hw0, hk v0 hz⟩
  · obtain ⟨rfl, x, rfl, v, h1, h2⟩ := hz
    exact ⟨x, v, rfl, h1, hk v h2⟩
end

open Out (Rt)
theorem boot_VE : bootBuiltins "ValueError" = some (.type "ValueError") := PyProof.Rows.Boot.«ValueError»
section
variable {X : Cy} {e : Expr} {r : Env2} {G : GD}
theorem we_env {Q : Res → Env2 → GD → Prop} (R : Env2) (hr : r = R) (k : WE X e R G Q) : WE X e r G Q := by subst hr; exact k
end
/-! ### count, index in a list of truth values -/
def rCntF (K : PySem.W.Frag) : V → List V → Hp → VK → Prop := fun x xs H Q => ∃ (p : Addr) (ys : List V) (y : V), x = .ref p ∧ xs = [y] ∧ SqL K H p ys ∧ flatV y = true ∧ ys.all flatV = true ∧ Q (.int (ys.countP (fun z => eqV z y) : Nat)) H
theorem cnt_vals {y : V} : ∀ {us : List Value} {ys : List V}, Vals ys us → ys.all flatV = true → us.countP (eqU y) = ys.countP fun z => eqV z y
  | _, _, .nil, _ => rfl
  | _, _, .cons (a := z) (l₁ := ys) rx rr, f => by
    have f' : (flatV z && ys.all flatV) = true := f
    rw [Bool.and_eq_true] at f'
    rw [List.countP_cons, List.countP_cons, cnt_vals rr f'.2, eqU_of rx f'.1]
theorem mt_countF {X : Cx} : MtR X "list.count" (rCntF X.K) := by
  intro pins s σ H x xs v us Q I rx rxs h
  obtain ⟨p, ys, y, rfl, rfl, hs, fy, fys, q⟩ := h
  cases rx
  cases rxs with
  | cons ry rt =>
    rename_i uy ut
    cases rt
    obtain ⟨its, rv, ⟨⟨cls, dd, data, sl⟩, n, ho, hc, hdn, hd⟩, hlen⟩ := I.list hs
    simp only at hc hd
    subst hc hd
    refine call_meets PySem.F.slot_list_count ⟨_, ho, rfl⟩ PySem.F.entry_list_count (PySem.F.args_list_count_2 _ _)
      (SeqAt.list_countAt p its.toArray n dd sl uy (eqU y)) ⟨ho, fun u hu => mem_eqAt ry fy rv fys u (by simpa using hu), ?_⟩
    have ec : its.toArray.toList.countP (eqU y) = ys.countP fun z => eqV z y := cnt_vals rv fys
    refine ⟨.int (ys.countP (fun z => eqV z y) : Nat), H, I.tok _, ⟨s.toks, ?_⟩, q⟩
    show Value.int ((its.toArray.toList.countP (eqU y) : Nat) : Int) s.toks = _
    rw [ec]
theorem RepL.bools {K : PySem.W.Frag} {F : Hp} : ∀ {ns : List Bool} {vs : List V}, RepL K F (ns.map D.bl) vs → vs = ns.map V.bl
  | [], vs, h => h
  | n :: ns, vs, h => by
    obtain ⟨v, r, rfl, h2, h3⟩ := h
    cases (show v = .bl n from h2)
    rw [RepL.bools h3]; rfl
def idxB (b : Bool) (xs : List Bool) : Option Nat := xs.findIdx? (· == b)
section
variable {X : Cy}
theorem eqV_bl (a b : Bool) : eqV (.bl a) (.bl b) = (a == b) := by cases a <;> cases b <;> rfl
theorem t_countB {Q : Res → Prop} {xs : List Bool} {b : Bool} (q : Q (.sh (.int (xs.count b : Nat)))) : MtW X "list.count" (.lst (xs.map D.bl)) (.bl b) Q := fun F0 T F G H r σ v w S h hw => by
  obtain ⟨p, vs, rfl, k1, k2⟩ := h.lst S.bas.fh
  cases k2.bools
  cases hw.bl
  have ec : (xs.map V.bl).countP (fun z => eqV z (.bl b)) = xs.count b := by
    rw [List.countP_map, List.count_eq_countP]
    exact congrArg (fun f => xs.countP f) (funext fun z => eqV_bl z b)
  exact ⟨_, mt_countF, p, xs.map V.bl, .bl b, rfl, rfl, .inl k1, rfl, by rw [List.all_map]; exact List.all_eq_true.mpr fun _ _ => rfl, .sh (.int (xs.count b : Nat)), F, Ex.refl _, S, by rw [ec]; rfl, q⟩
theorem t_indexB {Q : Res → Prop} {xs : List Bool} {b : Bool} {j : Nat} (hj : idxB b xs = some j) (q : Q (.sh (.int (j : Nat)))) : MtW X "list.index" (.lst (xs.map D.bl)) (.bl b) Q := fun F0 T F G H r σ v w S h hw => by
  obtain ⟨p, vs, rfl, k1, k2⟩ := h.lst S.bas.fh
  cases k2.bools
  cases hw.bl
  unfold idxB at hj
  rw [List.findIdx?_eq_some_iff_getElem] at hj
  obtain ⟨hl, h1, h2⟩ := hj
  refine ⟨_, mt_index, p, xs.map V.bl, .bl b, j, .bl xs[j], rfl, rfl, .inl k1, rfl, by rw [List.all_map]; exact List.all_eq_true.mpr fun _ _ => rfl, ?_, by rw [eqV_bl]; exact h1, fun m z' hm hz => ?_, .sh (.int (j : Nat)), F, Ex.refl _, S, rfl, q⟩
  · rw [List.getElem?_map, List.getElem?_eq_getElem hl]; rfl
  · rw [List.getElem?_map, List.getElem?_eq_getElem (Nat.lt_trans hm hl)] at hz
    cases hz
    rw [eqV_bl]
    exact Bool.eq_false_iff.mpr (h2 m hm)
end
def xcx (l : List Addr) (n : Nat) : Addr := l.getD n 0
theorem kit_typ {K : PySem.W.Frag} {D1 : Addr} {b : Bool} (hs : PySem.W.subIn K (.ref D1) (.type "ValueError") = some b) : PySem.W.kitOne K (.ref D1) (.type "ValueError") = some b := by
  unfold PySem.W.kitOne
  rw [if_neg (show ¬ ((Value.ref D1 == Value.type "ValueError") = true) from fun h => by cases (beq_iff_eq.mp h))]
  unfold PySem.W.kitCls
  dsimp only
  rw [if_pos (by decide +kernel), hs]
theorem opw_fdivX {X : Cy} {Q : Res → Prop} {i j : Int} (hc : 0 < j ∧ j < 2 ^ 400) (q : Q (.sh (.int (i / j)))) : OpW X (binaryOp .FloorDiv) (.int i) (.int j) Q :=
  opw_flat (d := .int (i / j)) (v := .int (i / j)) (fun _ _ => rfl) (fun F H va vb _ h1 h2 => ⟨_, op_fdivW, fun P p => ⟨i, j, h1.int, h2.int, wide_div (b := 400) hc.1 (by have := hc.2; have := hc.1; omega) (by decide) (by decide), p⟩⟩) q

open Out (Rt)
section
variable {X : Cy} {a b : Expr} {r : Env2} {G : GD} {pos : Pos} {κ ν : Type} [DecidableEq κ] {k : κ → Key} {f : ν → D}
/-- {**a, **b} -/
theorem we_mrgT {Q : Res → Env2 → GD → Prop} (hk : KInj k) (h : WE X a r G fun x r1 G1 => ∃ (kvs : List (κ × ν)) (r2 : Env2), fz r1 x = some (eD k f kvs, r2) ∧ kvs.length ≤ LIM2 ∧ WE X b r2 G1 fun y r3 G3 => ∃ (kws : List (κ × ν)) (r4 : Env2), fz r3 y = some (eD k f kws, r4) ∧ kws.length ≤ LIM2 ∧ Q (.fr (eD k f (dmk (kvs ++ kws)))) r4 G3) :
    WE X (.Dict [none, none] [a, b] pos) r G Q := by
  refine we_mrg (h.mono fun x r1 G1 ⟨kvs, r2, h1, h2, h3⟩ => ⟨eDl k f kvs, r2, by rw [eD_dicD]; exact h1, by unfold eDl; rw [List.length_map]; exact h2, h3.mono fun y r3 G3 ⟨kws, r4, h4, h5, h6⟩ => ⟨eDl k f kws, r4, by rw [eD_dicD]; exact h4, by unfold eDl; rw [List.length_map]; exact h5, ?_⟩⟩)
  rw [← List.foldl_append, show eDl k f kvs ++ eDl k f kws = eDl k f (kvs ++ kws) by unfold eDl; rw [List.map_append]]
  exact disp_of hk (kvs ++ kws) (P := fun d => Q (.fr d) r4 G3) h6
end

open L2 (ixN)
/-! Plain mathematics: computations that end well, lists, dicts, sorts. -/
namespace Out
variable {α β σ ρ : Type}
/-- it ends with a value of which Q holds -/
def yes (m : Out α) (Q : α → Prop) : Prop := ∃ a, m = .ok a ∧ Q a
theorem yes_ok {a : α} {Q : α → Prop} (h : Q a) : (Out.ok a).yes Q := ⟨a, rfl, h⟩
theorem yes.mono {m : Out α} {Q Q' : α → Prop} (h : m.yes Q) (k : ∀ a, Q a → Q' a) : m.yes Q' := by
  obtain ⟨a, h1, h2⟩ := h; exact ⟨a, h1, k a h2⟩
theorem yes_bind {m : Out α} {f : α → Out β} {Q : β → Prop} {R : α → Prop} (h : m.yes R) (k : ∀ a, R a → (f a).yes Q) : (m.bind f).yes Q := by
  obtain ⟨a, rfl, h2⟩ := h; exact k a h2
theorem yes_nox {m : Out α} {Q : α → Prop} (h : m.yes Q) : m.nox.yes Q := by
  obtain ⟨a, rfl, h2⟩ := h; exact ⟨a, rfl, h2⟩
theorem yes.eq {m : Out α} {a : α} (h : m.yes (· = a)) : m = .ok a := by obtain ⟨b, h1, h2⟩ := h; rw [h1, h2]
theorem bind_guard {p : Prop} [Decidable p] (h : p) {f : Unit → Out β} : (guard p).bind f = f () := by rw [guard_pos h]; rfl
theorem bind_get {o : Option α} {a : α} (h : o = some a) {f : α → Out β} : (get o).bind f = f a := by rw [h]; rfl
theorem yes_guard {p : Prop} [Decidable p] (h : p) {f : Unit → Out β} {Q : β → Prop} (k : (f ()).yes Q) : ((guard p).bind f).yes Q := by rw [bind_guard h]; exact k
theorem yes_get {o : Option α} {a : α} (h : o = some a) {f : α → Out β} {Q : β → Prop} (k : (f a).yes Q) : ((get o).bind f).yes Q := by rw [bind_get h]; exact k
theorem yes_let {a : α} {f : α → Out β} {Q : β → Prop} (k : (f a).yes Q) : ((Out.ok a).bind f).yes Q := k
theorem yes_ifT {c : Bool} {a b : Out α} {Q : α → Prop} (h : c = true) (k : a.yes Q) : (if c = true then a else b).yes Q := by rw [if_pos h]; exact k
theorem yes_ifF {c : Bool} {a b : Out α} {Q : α → Prop} (h : c = false) (k : b.yes Q) : (if c = true then a else b).yes Q := by rw [if_neg (by rw [h]; exact Bool.false_ne_true)]; exact k
theorem yes_if {c : Bool} {a b : Out α} {Q : α → Prop} (h : c = true → a.yes Q) (k : c = false → b.yes Q) : (if c = true then a else b).yes Q := by
  cases c with
  | true => exact h rfl
  | false => exact k rfl
theorem bind_assoc {γ : Type} {m : Out α} {f : α → Out β} {g : β → Out γ} : (m.bind f).bind g = m.bind fun a => (f a).bind g := by cases m <;> rfl
/-- loops: an invariant over what was done so far -/
theorem fold_yes {f : σ → α → Out σ} (I : List α → σ → Prop) : ∀ (xs : List α) (s0 : σ), I [] s0 → (∀ pre x post s, xs = pre ++ x :: post → I pre s → (f s x).yes (I (pre ++ [x]))) → (fold f xs s0).yes (I xs) := by
  have key : ∀ (xs : List α) (pre : List α) (s : σ), I pre s → (∀ p x post s, pre ++ xs = p ++ x :: post → pre.length ≤ p.length → I p s → (f s x).yes (I (p ++ [x]))) → (fold f xs s).yes (I (pre ++ xs)) := by
    intro xs
    induction xs with
    | nil => intro pre s h0 _; rw [List.append_nil]; exact yes_ok h0
    | cons x xs ih =>
      intro pre s h0 hs
      refine yes_bind (hs pre x xs s rfl (Nat.le_refl _) h0) fun s' h' => ?_
      have := ih (pre ++ [x]) s' h' fun p y post s e hl hI => hs p y post s (by rw [← e, List.append_assoc]; rfl) (by rw [List.length_append] at hl; exact Nat.le_trans (Nat.le_add_right _ _) hl) hI
      rw [List.append_assoc] at this
      exact this
  intro xs s0 h0 hs
  exact key xs [] s0 h0 fun p x post s e _ hI => hs p x post s e hI
theorem fold_nil {f : σ → α → Out σ} {s : σ} : fold f [] s = .ok s := rfl
theorem fold_cons {f : σ → α → Out σ} {s : σ} {x : α} {xs : List α} : fold f (x :: xs) s = (f s x).bind (fold f xs) := rfl
theorem fold_append {f : σ → α → Out σ} : ∀ {xs ys : List α} {s : σ}, fold f (xs ++ ys) s = (fold f xs s).bind (fold f ys)
  | [], ys, s => rfl
  | x :: xs, ys, s => by
    rw [List.cons_append, fold_cons, fold_cons, bind_assoc]
    congr 1; funext a; exact fold_append
/-- a loop that is a plain one -/
theorem fold_plain {f : σ → α → Out σ} {g : σ → α → σ} : ∀ (xs : List α) (s : σ), (∀ s x, x ∈ xs → f s x = .ok (g s x)) → fold f xs s = .ok (xs.foldl g s)
  | [], s, _ => rfl
  | x :: xs, s, h => by
    rw [fold_cons, h s x List.mem_cons_self, bind_ok, fold_plain xs _ fun s y hy => h s y (List.mem_cons_of_mem _ hy)]; rfl
theorem loop_nil {f : σ → α → Out (Rt σ ρ)} {s : σ} : loop f [] s = .ok (.nx s) := rfl
theorem loop_cons {f : σ → α → Out (Rt σ ρ)} {s : σ} {x : α} {xs : List α} : loop f (x :: xs) s = (f s x).bind fun t => match t with
    | .nx s' => loop f xs s'
    | .rt v => .ok (.rt v) := rfl
/-- loops with a return: an invariant, and what a return says -/
theorem loop_yes {f : σ → α → Out (Rt σ ρ)} (I : List α → σ → Prop) (R : ρ → Prop) : ∀ (xs : List α) (s0 : σ), I [] s0 → (∀ pre x post s, xs = pre ++ x :: post → I pre s → (f s x).yes fun t => match t with | .nx s' => I (pre ++ [x]) s' | .rt v => R v) → (loop f xs s0).yes fun t => match t with | .nx s' => I xs s' | .rt v => R v := by
  have key : ∀ (xs : List α) (pre : List α) (s : σ), I pre s → (∀ p x post s, pre ++ xs = p ++ x :: post → pre.length ≤ p.length → I p s → (f s x).yes fun t => match t with | .nx s' => I (p ++ [x]) s' | .rt v => R v) → (loop f xs s).yes fun t => match t with | .nx s' => I (pre ++ xs) s' | .rt v => R v := by
    intro xs
    induction xs with
    | nil => intro pre s h0 _; rw [List.append_nil]; exact yes_ok h0
    | cons x xs ih =>
      intro pre s h0 hs
      refine yes_bind (hs pre x xs s rfl (Nat.le_refl _) h0) fun t h' => ?_
      cases t with
      | nx s' =>
        have := ih (pre ++ [x]) s' h' fun p y post s e hl hI => hs p y post s (by rw [← e, List.append_assoc]; rfl) (by rw [List.length_append] at hl; exact Nat.le_trans (Nat.le_add_right _ _) hl) hI
        rw [List.append_assoc] at this
        exact this
      | rt v => exact yes_ok h'
  intro xs s0 h0 hs
  exact key xs [] s0 h0 fun p x post s e _ hI => hs p x post s e hI
/-- while: an invariant with a measure below the fuel -/
theorem whl_yes {c : σ → Out Bool} {f : σ → Out σ} (I : σ → Prop) (μ : σ → Nat) (Q : σ → Prop) (hc : ∀ s, I s → (c s).yes fun b => if b = true then (f s).yes (fun s' => I s' ∧ μ s' < μ s) else Q s) : ∀ (n : Nat) (s0 : σ), I s0 → μ s0 < n → (whl c f n s0).yes Q
  | 0, _, _, h => absurd h (Nat.not_lt_zero _)
  | n + 1, s, hI, h => by
    refine yes_bind (hc s hI) fun b hb => ?_
    cases b with
    | true => exact yes_bind (show (f s).yes _ from hb) fun s' ⟨h1, h2⟩ => whl_yes I μ Q hc n s' h1 (by omega)
    | false => exact yes_ok hb
/-- comprehensions -/
theorem compS_unit {f : Unit → α → Out (Option β × Unit)} {o : α → Option β} : ∀ (xs : List α) (acc : List β), (∀ x, x ∈ xs → f () x = .ok (o x, ())) → compS f xs acc () = .ok (acc ++ xs.filterMap o, ())
  | [], acc, _ => by unfold compS; simp
  | x :: xs, acc, h => by
    unfold compS
    rw [h x List.mem_cons_self, bind_ok]
    rw [compS_unit xs _ fun y hy => h y (List.mem_cons_of_mem _ hy)]
    cases hx : o x with
    | none => simp [hx]
    | some y => simp [hx]
theorem compS_yes {f : σ → α → Out (Option β × σ)} (I : List α → List β → σ → Prop) : ∀ (xs : List α) (s0 : σ), I [] [] s0 → (∀ pre x post acc s, xs = pre ++ x :: post → I pre acc s → (f s x).yes fun p => I (pre ++ [x]) (match p.1 with | some y => acc ++ [y] | none => acc) p.2) → (compS f xs [] s0).yes fun r => I xs r.1 r.2 := by
  have key : ∀ (xs : List α) (pre : List α) (acc : List β) (s : σ), I pre acc s → (∀ p x post acc s, pre ++ xs = p ++ x :: post → I p acc s → (f s x).yes fun q => I (p ++ [x]) (match q.1 with | some y => acc ++ [y] | none => acc) q.2) → (compS f xs acc s).yes fun r => I (pre ++ xs) r.1 r.2 := by
    intro xs
    induction xs with
    | nil => intro pre acc s h0 _; rw [List.append_nil]; exact yes_ok h0
    | cons x xs ih =>
      intro pre acc s h0 hs
      unfold compS
      refine yes_bind (hs pre x xs acc s rfl h0) fun q h' => ?_
      have := ih (pre ++ [x]) _ q.2 h' fun p y post acc s e hI => hs p y post acc s (by rw [← e, List.append_assoc]; rfl) hI
      rw [List.append_assoc] at this
      exact this
  intro xs s0 h0 hs
  exact key xs [] [] s0 h0 hs
end Out
open Out (Rt)
/-! ### lists -/
section
variable {α β : Type}
theorem perm_of_mem [DecidableEq α] {xs ys : List α} (hx : xs.Nodup) (hy : ys.Nodup) (h : ∀ a, a ∈ xs ↔ a ∈ ys) : xs.Perm ys := by
  rw [List.perm_iff_count]
  intro a
  by_cases ha : a ∈ xs
  · have h1 := List.nodup_iff_count.mp hx a
    have h2 := List.nodup_iff_count.mp hy a
    have h3 := List.count_pos_iff.mpr ha
    have h4 := List.count_pos_iff.mpr ((h a).mp ha)
    omega
  · rw [List.count_eq_zero_of_not_mem ha, List.count_eq_zero_of_not_mem fun z => ha ((h a).mpr z)]
theorem nodup_of_lt {xs : List Int} (h : xs.Pairwise (· < ·)) : xs.Nodup := h.imp fun h => by omega
theorem le_of_lt {xs : List Int} (h : xs.Pairwise (· < ·)) : xs.Pairwise (· ≤ ·) := h.imp fun h => by omega
/-- sorted, by its members -/
theorem isort_eq {xs ys : List Int} (hx : xs.Nodup) (hy : ys.Pairwise (· < ·)) (h : ∀ a, a ∈ xs ↔ a ∈ ys) : isort xs = ys :=
  (isort_of (perm_of_mem (nodup_of_lt hy) hx fun a => (h a).symm) (le_of_lt hy)).symm
theorem sorted_ext {xs ys : List Int} (hx : xs.Pairwise (· < ·)) (hy : ys.Pairwise (· < ·)) (h : ∀ a, a ∈ xs ↔ a ∈ ys) : xs = ys :=
  sorted_unique (perm_of_mem (nodup_of_lt hx) (nodup_of_lt hy) h) (le_of_lt hx) (le_of_lt hy)
theorem mem_isort {xs : List Int} {a : Int} : a ∈ isort xs ↔ a ∈ xs := (isort_perm xs).mem_iff
theorem isort_lt {xs : List Int} (h : xs.Nodup) : (isort xs).Pairwise (· < ·) := by
  have h1 := isort_sorted xs
  have h2 : (isort xs).Nodup := (isort_perm xs).nodup_iff.mpr h
  have := h1.and h2
  exact this.imp fun ⟨a, b⟩ => by omega
theorem isort_id {xs : List Int} (h : xs.Pairwise (· ≤ ·)) : isort xs = xs := (isort_of (List.Perm.refl xs) h).symm
theorem mem_rgI {a b x : Int} : x ∈ rgI a b ↔ a ≤ x ∧ x < b := by
  unfold rgI
  rw [List.mem_map]
  constructor
  · rintro ⟨i, hi, rfl⟩; rw [List.mem_range] at hi; omega
  · rintro ⟨h1, h2⟩; exact ⟨(x - a).toNat, by rw [List.mem_range]; omega, by omega⟩
theorem rgI_lt (a b : Int) : (rgI a b).Pairwise (· < ·) := by
  unfold rgI
  rw [List.pairwise_map]
  exact List.pairwise_lt_range.imp fun h => by omega
theorem rgI_nil {a b : Int} (h : b ≤ a) : rgI a b = [] := by
  unfold rgI; rw [show (b - a).toNat = 0 by omega]; rfl
theorem rgI_snoc {a b : Int} (h : a ≤ b) : rgI a (b + 1) = rgI a b ++ [b] := by
  unfold rgI; rw [show (b + 1 - a).toNat = (b - a).toNat + 1 by omega, List.range_succ, List.map_append]
  congr 1; simp; omega
theorem rgI_cons {a b : Int} (h : a < b) : rgI a b = a :: rgI (a + 1) b := by
  refine sorted_ext (rgI_lt _ _) ?_ fun x => ?_
  · rw [List.pairwise_cons]; exact ⟨fun x hx => by rw [mem_rgI] at hx; omega, rgI_lt _ _⟩
  · rw [List.mem_cons, mem_rgI, mem_rgI]; omega
theorem filter_lt {xs : List Int} {p : Int → Bool} (h : xs.Pairwise (· < ·)) : (xs.filter p).Pairwise (· < ·) := h.filter p
theorem pix_nat {xs : List α} {i : Nat} {x : α} (h : xs[i]? = some x) : pix xs (i : Int) = some x := by
  have hi := (List.getElem?_eq_some_iff.mp h).1
  unfold pix ixN
  rw [if_pos (by omega), if_pos (by omega)]
  simpa using h
theorem pix_pos {xs : List α} {i : Int} (h0 : 0 ≤ i) (h1 : i < xs.length) : pix xs i = xs[i.toNat]? := by
  unfold pix ixN
  rw [if_pos h0, if_pos h1]; rfl
theorem pix_some {xs : List α} {i : Int} (h0 : 0 ≤ i) (h1 : i < xs.length) : ∃ x, pix xs i = some x ∧ x ∈ xs := by
  rw [pix_pos h0 h1]
  have : i.toNat < xs.length := by omega
  exact ⟨xs[i.toNat], List.getElem?_eq_getElem this, List.getElem_mem _⟩
theorem pix_last {xs : List α} {x : α} (h : xs.getLast? = some x) : pix xs (-1) = some x := by
  have hne : xs ≠ [] := by intro e; rw [e] at h; cases h
  have hl : 0 < xs.length := List.length_pos_iff.mpr hne
  unfold pix ixN
  rw [if_neg (by omega), if_pos (by omega)]
  rw [List.getLast?_eq_getElem?] at h
  rw [show ((-1 : Int) + (xs.length : Int)).toNat = xs.length - 1 by omega]
  exact h
theorem penumF_append : ∀ (xs ys : List α) (k : Nat), penumF k (xs ++ ys) = penumF k xs ++ penumF (k + xs.length) ys
  | [], ys, k => rfl
  | x :: xs, ys, k => by
    show ((k : Int), x) :: penumF (k + 1) (xs ++ ys) = ((k : Int), x) :: (penumF (k + 1) xs ++ _)
    rw [penumF_append xs ys (k + 1), List.length_cons, show k + 1 + xs.length = k + (xs.length + 1) by omega]
theorem penumF_length : ∀ (xs : List α) (k : Nat), (penumF k xs).length = xs.length
  | [], k => rfl
  | x :: xs, k => by unfold penumF; rw [List.length_cons, penumF_length xs, List.length_cons]
theorem penum_length (xs : List α) : (penum xs).length = xs.length := penumF_length xs 0
theorem penumF_get : ∀ (xs : List α) (k i : Nat), (penumF k xs)[i]? = (xs[i]?).map fun x => (((k + i : Nat) : Int), x)
  | [], k, i => by unfold penumF; simp
  | x :: xs, k, 0 => by unfold penumF; simp
  | x :: xs, k, i + 1 => by
    unfold penumF
    rw [List.getElem?_cons_succ, penumF_get xs (k + 1) i, List.getElem?_cons_succ]
    rw [show k + 1 + i = k + (i + 1) by omega]
theorem penum_get (xs : List α) (i : Nat) : (penum xs)[i]? = (xs[i]?).map fun x => ((i : Int), x) := by
  unfold penum; rw [penumF_get, Nat.zero_add]
/-- a walk over an enumerated list: what stands at a place -/
theorem penum_split {xs : List α} {pre post : List (Int × α)} {p : Int × α} (h : penum xs = pre ++ p :: post) : ∃ i : Nat, i = pre.length ∧ p.1 = (i : Int) ∧ xs[i]? = some p.2 ∧ pre = penum (xs.take i) := by
  have hg : (penum xs)[pre.length]? = some p := by rw [h]; simp
  rw [penum_get] at hg
  cases hx : xs[pre.length]? with
  | none => rw [hx] at hg; cases hg
  | some x =>
    rw [hx] at hg
    have hp : ((pre.length : Int), x) = p := by simpa using hg
    subst hp
    refine ⟨pre.length, rfl, rfl, hx, ?_⟩
    have hlt := (List.getElem?_eq_some_iff.mp hx).1
    apply List.ext_getElem?
    intro i
    rw [penum_get]
    by_cases hi : i < pre.length
    · have e1 : (penum xs)[i]? = pre[i]? := by rw [h, List.getElem?_append_left hi]
      rw [← e1, penum_get, List.getElem?_take_of_lt hi]
    · rw [List.getElem?_eq_none (by omega), List.getElem?_eq_none (by rw [List.length_take]; omega)]; rfl
end
/-! ### dicts -/
section
variable {κ ν : Type} [DecidableEq κ]
abbrev keys (kvs : List (κ × ν)) : List κ := kvs.map (·.1)
theorem dhas_iff {kvs : List (κ × ν)} {k : κ} : dhas kvs k = true ↔ k ∈ keys kvs := by
  unfold dhas keys
  rw [List.any_eq_true, List.mem_map]
  constructor
  · rintro ⟨p, h1, h2⟩; exact ⟨p, h1, by simpa using h2⟩
  · rintro ⟨p, h1, h2⟩; exact ⟨p, h1, by simpa using h2⟩
theorem dhas_false {kvs : List (κ × ν)} {k : κ} : dhas kvs k = false ↔ k ∉ keys kvs := by
  rw [← dhas_iff]; cases dhas kvs k <;> simp
theorem dget_none {kvs : List (κ × ν)} {k : κ} : dget kvs k = none ↔ k ∉ keys kvs := by
  unfold dget keys
  rw [Option.map_eq_none_iff, List.find?_eq_none, List.mem_map]
  constructor
  · rintro h ⟨p, h1, h2⟩; exact h p h1 (by simpa using h2)
  · intro h p h1 h2; exact h ⟨p, h1, by simpa using h2⟩
theorem dget_mem {kvs : List (κ × ν)} {k : κ} {v : ν} (h : dget kvs k = some v) : (k, v) ∈ kvs := by
  unfold dget at h
  rw [Option.map_eq_some_iff] at h
  obtain ⟨p, h1, h2⟩ := h
  have := List.find?_some h1
  have hk : p.1 = k := by simpa using this
  rw [← hk, ← h2]
  exact List.mem_of_find?_eq_some h1
theorem dget_some {kvs : List (κ × ν)} {k : κ} (h : k ∈ keys kvs) : ∃ v, dget kvs k = some v := by
  cases e : dget kvs k with
  | none => exact absurd h (dget_none.mp e)
  | some v => exact ⟨v, rfl⟩
theorem dget_of_mem {kvs : List (κ × ν)} {k : κ} {v : ν} (hn : (keys kvs).Nodup) (h : (k, v) ∈ kvs) : dget kvs k = some v := by
  induction kvs with
  | nil => cases h
  | cons p r ih =>
    unfold dget
    rw [List.find?_cons]
    by_cases e : p.1 = k
    · rw [show decide (p.1 = k) = true by simp [e]]
      rcases List.mem_cons.mp h with h | h
      · rw [← h]; rfl
      · exfalso
        have := (List.nodup_cons.mp hn).1
        exact this (List.mem_map.mpr ⟨(k, v), h, e.symm⟩)
    · rw [show decide (p.1 = k) = false by simp [e]]
      rcases List.mem_cons.mp h with h | h
      · rw [← h] at e; exact absurd rfl e
      · exact ih (List.nodup_cons.mp hn).2 h
theorem dput_eq (kvs : List (κ × ν)) (k : κ) (v : ν) : dput kvs k v = if dhas kvs k = true then kvs.map (fun p => if p.1 = k then (p.1, v) else p) else kvs ++ [(k, v)] := rfl
theorem keys_dput (kvs : List (κ × ν)) (k : κ) (v : ν) : keys (dput kvs k v) = if k ∈ keys kvs then keys kvs else keys kvs ++ [k] := by
  rw [dput_eq]; unfold keys
  by_cases h : k ∈ keys kvs
  · rw [if_pos (show dhas kvs k = true from dhas_iff.mpr h), if_pos h, List.map_map]
    apply List.map_congr_left
    intro p _
    by_cases e : p.1 = k
    · simp [e]
    · simp [e]
  · rw [if_neg (show ¬ dhas kvs k = true from fun z => h (dhas_iff.mp z)), if_neg h, List.map_append]; rfl
theorem mem_keys_dput {kvs : List (κ × ν)} {k x : κ} {v : ν} : x ∈ keys (dput kvs k v) ↔ x = k ∨ x ∈ keys kvs := by
  rw [keys_dput]
  split
  · constructor
    · exact .inr
    · rintro (rfl | h)
      · assumption
      · exact h
  · rw [List.mem_append, List.mem_singleton, or_comm]
theorem dput_nodup {kvs : List (κ × ν)} {k : κ} {v : ν} (h : (keys kvs).Nodup) : (keys (dput kvs k v)).Nodup := by
  rw [keys_dput]
  split
  · exact h
  · rename_i hk
    rw [List.nodup_append]
    exact ⟨h, by simp, fun a ha b hb => by rw [List.mem_singleton] at hb; subst hb; exact fun e => hk (e ▸ ha)⟩
theorem dget_dput (kvs : List (κ × ν)) (k x : κ) (v : ν) : dget (dput kvs k v) x = if x = k then some v else dget kvs x := by
  rw [dput_eq]
  by_cases h : dhas kvs k = true
  · rw [if_pos h]
    have hk := dhas_iff.mp h
    clear h
    induction kvs with
    | nil => cases hk
    | cons p r ih =>
      unfold dget
      rw [List.map_cons, List.find?_cons, List.find?_cons]
      by_cases e : p.1 = k
      · rw [if_pos e]
        by_cases hx : x = k
        · subst hx; simp [e]
        · rw [show decide ((p.1, v).1 = x) = false by simp; intro z; exact hx (z.symm.trans e)]
          rw [if_neg hx]
          by_cases hr : k ∈ keys r
          · have := ih hr; rw [if_neg hx] at this; exact this
          · have : r.map (fun p => if p.1 = k then (p.1, v) else p) = r := by
              rw [show r = r.map id by simp, List.map_map]
              apply List.map_congr_left
              intro q hq
              have : q.1 ≠ k := fun z => hr (List.mem_map.mpr ⟨q, hq, z⟩)
              simp [this]
            rw [this]
      · rw [if_neg e]
        have hr : k ∈ keys r := by
          rcases List.mem_cons.mp hk with z | z
          · exact absurd z.symm e
          · exact z
        by_cases hx : p.1 = x
        · rw [show decide (p.1 = x) = true by simp [hx]]
          rw [if_neg (fun z => e (hx.trans z))]
        · rw [show decide (p.1 = x) = false by simp [hx]]
          exact ih hr
  · rw [if_neg h]
    have hk : k ∉ keys kvs := fun z => h (dhas_iff.mpr z)
    unfold dget
    rw [List.find?_append]
    by_cases hx : x = k
    · subst hx
      have := dget_none.mpr hk
      unfold dget at this
      rw [Option.map_eq_none_iff] at this
      rw [this, if_pos rfl]; simp
    · rw [if_neg hx]
      have : List.find? (fun p : κ × ν => decide (p.1 = x)) [(k, v)] = none := by
        rw [List.find?_eq_none]; intro p hp; rw [List.mem_singleton] at hp; subst hp; simp; exact fun z => hx z.symm
      rw [this, Option.or_none]
theorem dput_new {kvs : List (κ × ν)} {k : κ} {v : ν} (h : k ∉ keys kvs) : dput kvs k v = kvs ++ [(k, v)] := by
  rw [dput_eq, if_neg (show ¬ dhas kvs k = true from fun z => h (dhas_iff.mp z))]
theorem mem_keys_foldl (ps : List (κ × ν)) : ∀ (acc : List (κ × ν)) (x : κ), x ∈ keys (ps.foldl (fun acc p => dput acc p.1 p.2) acc) ↔ x ∈ keys acc ∨ x ∈ keys ps := by
  induction ps with
  | nil => intro acc x; simp
  | cons p r ih =>
    intro acc x
    rw [List.foldl_cons, ih, mem_keys_dput]
    show _ ↔ _ ∨ x ∈ p.1 :: keys r
    rw [List.mem_cons]
    constructor
    · rintro ((h | h) | h)
      · exact .inr (.inl h)
      · exact .inl h
      · exact .inr (.inr h)
    · rintro (h | h | h)
      · exact .inl (.inr h)
      · exact .inl (.inl h)
      · exact .inr h
theorem mem_keys_dmk {ps : List (κ × ν)} {x : κ} : x ∈ keys (dmk ps) ↔ x ∈ keys ps := by
  unfold dmk; rw [mem_keys_foldl]; simp
theorem foldl_nodup (ps : List (κ × ν)) : ∀ acc : List (κ × ν), (keys acc).Nodup → (keys (ps.foldl (fun acc p => dput acc p.1 p.2) acc)).Nodup := by
  induction ps with
  | nil => intro acc h; exact h
  | cons p r ih => intro acc h; exact ih _ (dput_nodup h)
theorem dmk_nodup (ps : List (κ × ν)) : (keys (dmk ps)).Nodup := foldl_nodup ps [] List.nodup_nil
theorem dmk_of_nodup {ps : List (κ × ν)} (h : (keys ps).Nodup) : dmk ps = ps := by
  have key : ∀ (ps acc : List (κ × ν)), (keys (acc ++ ps)).Nodup → ps.foldl (fun acc p => dput acc p.1 p.2) acc = acc ++ ps := by
    intro ps
    induction ps with
    | nil => intro acc _; simp
    | cons p r ih =>
      intro acc h
      rw [List.foldl_cons]
      have hp : p.1 ∉ keys acc := by
        intro z
        unfold keys at h z
        rw [List.map_append, List.nodup_append] at h
        exact h.2.2 _ z p.1 (by simp) rfl
      rw [dput_new hp, ih _ (by rw [List.append_assoc]; exact h), List.append_assoc]; rfl
  exact key ps [] h
end

/-! Places by levels: the fewest steps. -/
/-- x can be come to from b by n steps -/
def Wkn (nbr : Int → List Int) (b : Int) : Nat → Int → Prop
  | 0, x => x = b
  | n + 1, x => ∃ y, Wkn nbr b n y ∧ x ∈ nbr y
def Dst (nbr : Int → List Int) (b : Int) (n : Nat) (x : Int) : Prop := Wkn nbr b n x ∧ ∀ m, m < n → ¬ Wkn nbr b m x
def bput (d : Int) (s : List (Int × Int) × List Int) (o : Int) : List (Int × Int) × List Int := if dhas s.1 o = true then s else (dput s.1 o (d + 1), s.2 ++ [o])
section
variable {nbr : Int → List Int} {b : Int}
theorem Dst.uniq {n m : Nat} {x : Int} (h : Dst nbr b n x) (k : Dst nbr b m x) : n = m := by
  rcases Nat.lt_trichotomy n m with z | z | z
  · exact absurd h.1 (k.2 n z)
  · exact z
  · exact absurd k.1 (h.2 m z)
theorem Wkn.dst {n : Nat} {x : Int} (h : Wkn nbr b n x) : ∃ m, m ≤ n ∧ Dst nbr b m x := by
  induction n using Nat.strongRecOn with
  | ind n ih =>
    by_cases z : ∃ m, m < n ∧ Wkn nbr b m x
    · obtain ⟨m, h1, h2⟩ := z
      obtain ⟨k, h3, h4⟩ := ih m h1 h2
      exact ⟨k, by omega, h4⟩
    · exact ⟨n, Nat.le_refl _, h, fun m hm hw => z ⟨m, hm, hw⟩⟩
/-- what a walk over new places adds -/
theorem bput_fold (d : Int) : ∀ (os : List Int) (s : List (Int × Int) × List Int), ∃ nw : List Int, os.foldl (bput d) s = (s.1 ++ nw.map (fun x => (x, d + 1)), s.2 ++ nw) ∧ nw.Nodup ∧ ∀ x, x ∈ nw ↔ x ∈ os ∧ x ∉ keys s.1
  | [], s => ⟨[], by simp, by simp, by simp⟩
  | o :: os, s => by
    rw [List.foldl_cons]
    by_cases h : o ∈ keys s.1
    · have hb : bput d s o = s := by unfold bput; rw [if_pos (dhas_iff.mpr h)]
      obtain ⟨nw, h1, h2, h3⟩ := bput_fold d os s
      refine ⟨nw, by rw [hb]; exact h1, h2, fun x => ?_⟩
      rw [h3, List.mem_cons]
      constructor
      · rintro ⟨a, c⟩; exact ⟨.inr a, c⟩
      · rintro ⟨a | a, c⟩
        · exact absurd (a ▸ h) c
        · exact ⟨a, c⟩
    · have hb : bput d s o = (s.1 ++ [(o, d + 1)], s.2 ++ [o]) := by
        unfold bput; rw [if_neg (fun z => h (dhas_iff.mp z)), dput_new h]
      obtain ⟨nw, h1, h2, h3⟩ := bput_fold d os (s.1 ++ [(o, d + 1)], s.2 ++ [o])
      have hk : keys (s.1 ++ [(o, d + 1)]) = keys s.1 ++ [o] := by unfold keys; rw [List.map_append]; rfl
      refine ⟨o :: nw, ?_, ?_, fun x => ?_⟩
      · rw [hb, h1]; simp [List.append_assoc]
      · rw [List.nodup_cons]
        refine ⟨fun z => ?_, h2⟩
        have := ((h3 o).mp z).2
        rw [hk] at this
        exact this (by simp)
      · rw [List.mem_cons, h3, hk, List.mem_cons, List.mem_append, List.mem_singleton]
        constructor
        · rintro (rfl | ⟨a, c⟩)
          · exact ⟨.inl rfl, h⟩
          · exact ⟨.inr a, fun z => c (.inl z)⟩
        · rintro ⟨rfl | a, c⟩
          · exact .inl rfl
          · by_cases e : x = o
            · exact .inl e
            · exact .inr ⟨a, fun z => z.elim c e⟩
/-- the places found up to level k -/
structure BInv (nbr : Int → List Int) (b : Int) (k : Nat) (found : List (Int × Int)) (level : List Int) : Prop where
  nd : (keys found).Nodup
  has : ∀ x, x ∈ keys found ↔ ∃ n, n ≤ k ∧ Wkn nbr b n x
  val : ∀ x d, dget found x = some d → ∃ n : Nat, d = (n : Int) ∧ Dst nbr b n x
  lv : ∀ x, x ∈ level ↔ Dst nbr b k x
  lnd : level.Nodup
theorem BInv.at {k : Nat} {found : List (Int × Int)} {level : List Int} (h : BInv nbr b k found level) {x : Int} {n : Nat} (hd : Dst nbr b n x) (hn : n ≤ k) : dget found x = some (n : Int) := by
  obtain ⟨v, hv⟩ := dget_some ((h.has x).mpr ⟨n, hn, hd.1⟩)
  obtain ⟨m, h1, h2⟩ := h.val x v hv
  rw [hv, h1, h2.uniq hd]
theorem binv_zero : BInv nbr b 0 [(b, 0)] [b] where
  nd := by simp
  has x := by
    show x ∈ [b] ↔ _
    rw [List.mem_singleton]
    constructor
    · rintro rfl; exact ⟨0, Nat.le_refl _, rfl⟩
    · rintro ⟨n, h1, h2⟩
      have : n = 0 := by omega
      subst this; exact h2
  val x d h := by
    unfold dget at h
    rw [List.find?_cons] at h
    by_cases e : b = x
    · rw [show decide ((b, (0 : Int)).1 = x) = true by simp [e]] at h
      cases h
      exact ⟨0, rfl, e.symm, fun m hm => by omega⟩
    · rw [show decide ((b, (0 : Int)).1 = x) = false by simp [e]] at h
      cases h
  lv x := by
    rw [List.mem_singleton]
    constructor
    · rintro rfl; exact ⟨rfl, fun m hm => by omega⟩
    · rintro ⟨h, _⟩; exact h
  lnd := by simp
theorem dget_append_new {f : List (Int × Int)} {nw : List Int} {d : Int} {x : Int} : dget (f ++ nw.map (fun y => (y, d))) x = if x ∈ keys f then dget f x else if x ∈ nw then some d else none := by
  have e : dget (f ++ nw.map (fun y => (y, d))) x = (dget f x).or (dget (nw.map (fun y => (y, d))) x) := by
    unfold dget; rw [List.find?_append]
    cases List.find? (fun p : Int × Int => decide (p.1 = x)) f <;> rfl
  rw [e]
  by_cases h : x ∈ keys f
  · rw [if_pos h]
    obtain ⟨v, hv⟩ := dget_some h
    rw [hv]; rfl
  · rw [if_neg h, dget_none.mpr h, Option.none_or]
    have hk : keys (nw.map (fun y => (y, d))) = nw := by unfold keys; rw [List.map_map]; exact List.map_id nw
    by_cases h2 : x ∈ nw
    · rw [if_pos h2]
      obtain ⟨v, hv⟩ := dget_some (kvs := nw.map (fun y => (y, d))) (k := x) (by rw [hk]; exact h2)
      have := dget_mem hv
      rw [List.mem_map] at this
      obtain ⟨y, _, hy⟩ := this
      cases hy
      exact hv
    · rw [if_neg h2]; exact dget_none.mpr (by rw [hk]; exact h2)
/-- one level more -/
theorem binv_step {k : Nat} {found : List (Int × Int)} {level : List Int} (h : BInv nbr b k found level) : ∃ nw : List Int, (level.flatMap nbr).foldl (bput k) (found, []) = (found ++ nw.map (fun x => (x, (k : Int) + 1)), nw) ∧ BInv nbr b (k + 1) (found ++ nw.map (fun x => (x, (k : Int) + 1))) nw := by
  obtain ⟨nw, h1, h2, h3⟩ := bput_fold k (level.flatMap nbr) (found, [])
  rw [List.nil_append] at h1
  have hw : ∀ x, x ∈ nw ↔ Dst nbr b (k + 1) x := by
    intro x
    rw [h3]
    constructor
    · rintro ⟨a, c⟩
      rw [List.mem_flatMap] at a
      obtain ⟨y, hy, hx⟩ := a
      refine ⟨⟨y, ((h.lv y).mp hy).1, hx⟩, fun m hm hm2 => c ((h.has x).mpr ⟨m, by omega, hm2⟩)⟩
    · rintro ⟨⟨y, hy, hx⟩, hm⟩
      refine ⟨?_, fun z => ?_⟩
      · rw [List.mem_flatMap]
        refine ⟨y, (h.lv y).mpr ⟨hy, fun m hlt hw => hm (m + 1) (by omega) ⟨y, hw, hx⟩⟩, hx⟩
      · obtain ⟨n, hn, hw⟩ := (h.has x).mp z
        exact hm n (by omega) hw
  refine ⟨nw, h1, ?_, fun x => ?_, fun x d hd => ?_, hw, h2⟩
  · unfold keys
    rw [List.map_append, List.map_map]
    rw [List.nodup_append]
    rw [show (List.map ((fun x : Int × Int => x.1) ∘ fun x => (x, (k : Int) + 1)) nw) = nw from List.map_id nw]
    refine ⟨h.nd, h2, fun a ha c hc' => ?_⟩
    rintro rfl
    exact ((h3 a).mp hc').2 ha
  · unfold keys
    rw [List.map_append, List.map_map, List.mem_append]
    rw [show (List.map ((fun x : Int × Int => x.1) ∘ fun x => (x, (k : Int) + 1)) nw) = nw by simp [Function.comp_def]]
    rw [show x ∈ List.map (fun p : Int × Int => p.1) found ↔ _ from h.has x, hw]
    constructor
    · rintro (⟨n, a, c⟩ | a)
      · exact ⟨n, by omega, c⟩
      · exact ⟨k + 1, Nat.le_refl _, a.1⟩
    · rintro ⟨n, a, c⟩
      obtain ⟨m, hm, hd⟩ := c.dst
      by_cases e : m = k + 1
      · exact .inr (e ▸ hd)
      · exact .inl ⟨m, by omega, hd.1⟩
  · rw [dget_append_new] at hd
    by_cases hk : x ∈ keys found
    · rw [if_pos hk] at hd; exact h.val x d hd
    · rw [if_neg hk] at hd
      by_cases h4 : x ∈ nw
      · rw [if_pos h4] at hd; cases hd
        exact ⟨k + 1, by omega, (hw x).mp h4⟩
      · rw [if_neg h4] at hd; cases hd
/-- the end: all places are found -/
structure Bfs (nbr : Int → List Int) (b : Int) (found : List (Int × Int)) : Prop where
  nd : (keys found).Nodup
  has : ∀ x, x ∈ keys found ↔ ∃ n, Wkn nbr b n x
  val : ∀ x (d : Int), dget found x = some d ↔ ∃ n : Nat, d = (n : Int) ∧ Dst nbr b n x
theorem binv_end {k : Nat} {found : List (Int × Int)} (h : BInv nbr b k found []) : Bfs nbr b found := by
  have hno : ∀ x, ¬ Dst nbr b k x := fun x hx => by have := (h.lv x).mpr hx; cases this
  have hk : ∀ n x, Wkn nbr b n x → ∃ m, m < k ∧ Wkn nbr b m x := by
    intro n
    induction n with
    | zero =>
      intro x hx
      by_cases e : k = 0
      · subst e; exact absurd ⟨hx, fun m hm => by omega⟩ (hno x)
      · exact ⟨0, by omega, hx⟩
    | succ n ih =>
      intro x ⟨y, hy, hx⟩
      obtain ⟨m, hm, hw⟩ := ih y hy
      by_cases e : m + 1 < k
      · exact ⟨m + 1, e, y, hw, hx⟩
      · have e2 : m + 1 = k := by omega
        obtain ⟨q, hq, hd⟩ := (show Wkn nbr b (m + 1) x from ⟨y, hw, hx⟩).dst
        by_cases e3 : q = k
        · exact absurd (e3 ▸ hd) (hno x)
        · exact ⟨q, by omega, hd.1⟩
  have hhas : ∀ x, x ∈ keys found ↔ ∃ n, Wkn nbr b n x := by
    intro x; rw [h.has]
    constructor
    · rintro ⟨n, _, c⟩; exact ⟨n, c⟩
    · rintro ⟨n, c⟩; obtain ⟨m, hm, hw⟩ := hk n x c; exact ⟨m, by omega, hw⟩
  refine ⟨h.nd, hhas, fun x d => ⟨h.val x d, ?_⟩⟩
  rintro ⟨n, rfl, hd⟩
  obtain ⟨v, hv⟩ := dget_some ((hhas x).mpr ⟨n, hd.1⟩)
  obtain ⟨m, h1, h2⟩ := h.val x v hv
  rw [hv, h1, h2.uniq hd]
theorem nodup_len : ∀ {U xs : List Int}, xs.Nodup → (∀ x, x ∈ xs → x ∈ U) → xs.length ≤ U.length
  | U, [], _, _ => Nat.zero_le _
  | U, x :: xs, h, hs => by
    have hx := hs x List.mem_cons_self
    have h1 := List.nodup_cons.mp h
    have := nodup_len (U := U.erase x) h1.2 fun y hy => by
      have hne : y ≠ x := fun e => h1.1 (e ▸ hy)
      exact (List.mem_erase_of_ne hne).mpr (hs y (List.mem_cons_of_mem _ hy))
    rw [List.length_erase_of_mem hx] at this
    have hp := List.length_pos_of_mem hx
    rw [List.length_cons]; omega
/-- a turn's inner walk, by its steps -/
theorem bfs_inner {γ : Type} {F : List (Int × Int) × List Int → γ → Out (List (Int × Int) × List Int)} {U : List Int} {x k : Int} {o : γ → Int} (hU : U.length < LIM) : ∀ (L : List γ) (s : List (Int × Int) × List Int),
    (∀ y, y ∈ L → o y ∈ U) → (keys s.1).Nodup → (∀ y, y ∈ keys s.1 → y ∈ U) → s.2.Nodup → (∀ y, y ∈ s.2 → y ∈ keys s.1) → dget s.1 x = some k →
    (∀ s y, y ∈ L → dget s.1 x = some k → s.1.length < LIM → s.2.length < LIM → F s y = .ok (bput k s (o y))) →
    Out.fold F L s = .ok ((L.map o).foldl (bput k) s)
  | [], s, _, _, _, _, _, _, _ => rfl
  | y :: L, s, h1, h2, h3, h4, h5, h6, hF => by
    have l1 := nodup_len h2 h3
    have l2 := nodup_len h4 fun z hz => h3 z (h5 z hz)
    have hl : s.1.length = (keys s.1).length := by unfold keys; rw [List.length_map]
    rw [Out.fold_cons, hF s y List.mem_cons_self h6 (by omega) (by omega), Out.bind_ok]
    rw [List.map_cons, List.foldl_cons]
    by_cases e : o y ∈ keys s.1
    · have hb : bput k s (o y) = s := by unfold bput; rw [if_pos (dhas_iff.mpr e)]
      rw [hb]
      exact bfs_inner hU L s (fun z hz => h1 z (List.mem_cons_of_mem _ hz)) h2 h3 h4 h5 h6 fun s z hz => hF s z (List.mem_cons_of_mem _ hz)
    · have hb : bput k s (o y) = (dput s.1 (o y) (k + 1), s.2 ++ [o y]) := by unfold bput; rw [if_neg (fun z => e (dhas_iff.mp z))]
      rw [hb]
      refine bfs_inner hU L _ (fun z hz => h1 z (List.mem_cons_of_mem _ hz)) (dput_nodup h2) (fun z hz => ?_) ?_ (fun z hz => ?_) ?_ fun s z hz => hF s z (List.mem_cons_of_mem _ hz)
      · rcases mem_keys_dput.mp hz with rfl | hz
        · exact h1 y List.mem_cons_self
        · exact h3 z hz
      · rw [List.nodup_append]
        exact ⟨h4, by simp, fun a ha c hc => by rw [List.mem_singleton] at hc; subst hc; exact fun q => e (h5 _ (q ▸ ha))⟩
      · rw [mem_keys_dput]
        rcases List.mem_append.mp hz with hz | hz
        · exact .inr (h5 z hz)
        · exact .inl (List.mem_singleton.mp hz)
      · have hx : x ∈ keys s.1 := by apply Classical.byContradiction; intro z; rw [dget_none.mpr z] at h6; cases h6
        rw [dget_dput, if_neg (fun q : x = o y => e (q ▸ hx))]
        exact h6
/-- a level's walk -/
theorem bfs_level {F : List (Int × Int) × List Int → Int → Out (List (Int × Int) × List Int)} {U : List Int} {k : Int} : ∀ (L : List Int) (s : List (Int × Int) × List Int),
    (∀ x, x ∈ L → ∀ y, y ∈ nbr x → y ∈ U) → (keys s.1).Nodup → (∀ y, y ∈ keys s.1 → y ∈ U) → s.2.Nodup → (∀ y, y ∈ s.2 → y ∈ keys s.1) → (∀ x, x ∈ L → dget s.1 x = some k) →
    (∀ s x, x ∈ L → (keys s.1).Nodup → (∀ y, y ∈ keys s.1 → y ∈ U) → s.2.Nodup → (∀ y, y ∈ s.2 → y ∈ keys s.1) → dget s.1 x = some k → F s x = .ok ((nbr x).foldl (bput k) s)) →
    Out.fold F L s = .ok ((L.flatMap nbr).foldl (bput k) s)
  | [], s, _, _, _, _, _, _, _ => rfl
  | x :: L, s, h1, h2, h3, h4, h5, h6, hF => by
    rw [Out.fold_cons, hF s x List.mem_cons_self h2 h3 h4 h5 (h6 x List.mem_cons_self), Out.bind_ok]
    rw [List.flatMap_cons, List.foldl_append]
    obtain ⟨nw, e1, e2, e3⟩ := bput_fold k (nbr x) s
    rw [e1]
    have hk : keys (s.1 ++ nw.map (fun x => (x, k + 1))) = keys s.1 ++ nw := by unfold keys; rw [List.map_append, List.map_map]; simp [Function.comp_def]
    refine bfs_level L _ (fun z hz => h1 z (List.mem_cons_of_mem _ hz)) ?_ (fun y hy => ?_) ?_ (fun y hy => ?_) (fun z hz => ?_) fun s z hz => hF s z (List.mem_cons_of_mem _ hz)
    · rw [hk, List.nodup_append]
      exact ⟨h2, e2, fun a ha c hc q => ((e3 c).mp hc).2 (q ▸ ha)⟩
    · rw [hk] at hy
      rcases List.mem_append.mp hy with hy | hy
      · exact h3 y hy
      · exact h1 x List.mem_cons_self y ((e3 y).mp hy).1
    · rw [List.nodup_append]
      exact ⟨h4, e2, fun a ha c hc q => ((e3 c).mp hc).2 (h5 _ (q ▸ ha))⟩
    · rw [hk]
      rcases List.mem_append.mp hy with hy | hy
      · exact List.mem_append_left _ (h5 y hy)
      · exact List.mem_append_right _ hy
    · have := h6 z (List.mem_cons_of_mem _ hz)
      rw [dget_append_new, if_pos]
      · exact this
      · apply Classical.byContradiction; intro q; rw [dget_none.mpr q] at this; cases this
/-- the whole loop -/
theorem bfs_whl {c : List (Int × Int) × List Int → Out Bool} {f : List (Int × Int) × List Int → Out (List (Int × Int) × List Int)} {U : List Int} {N : Nat} (hU : ∀ n x, Wkn nbr b n x → x ∈ U) (hN : 2 * U.length + 2 < N)
    (hc : ∀ s, c s = .ok (!decide (s.2 = [])))
    (hf : ∀ s (k : Nat), s.2 ≠ [] → BInv nbr b k s.1 s.2 → f s = .ok ((s.2.flatMap nbr).foldl (bput k) (s.1, []))) : (Out.whl c f N ([(b, 0)], [b])).yes fun s => Bfs nbr b s.1 := by
  refine Out.whl_yes (fun s => ∃ k, BInv nbr b k s.1 s.2) (fun s => 2 * (U.length - s.1.length) + (match s.2 with | [] => 0 | _ => 1)) _ (fun s ⟨k, hI⟩ => ?_) N _ ⟨0, binv_zero⟩ (by simp; omega)
  rw [hc]
  refine Out.yes_ok ?_
  have hsub : ∀ {k : Nat} {found : List (Int × Int)} {level : List Int}, BInv nbr b k found level → found.length ≤ U.length := fun {k found level} h => by
    have := nodup_len h.nd fun x hx => by obtain ⟨n, _, hw⟩ := (h.has x).mp hx; exact hU n x hw
    unfold keys at this; rw [List.length_map] at this; exact this
  by_cases e : s.2 = []
  · rw [if_neg (by simp [e])]
    obtain ⟨s1, s2⟩ := s
    cases e
    exact binv_end hI
  · rw [if_pos (by simp [e])]
    rw [hf s k e hI]
    obtain ⟨nw, h1, h2⟩ := binv_step hI
    rw [h1]
    refine Out.yes_ok ⟨⟨k + 1, h2⟩, ?_⟩
    have l1 := hsub hI
    have l2 := hsub h2
    rw [List.length_append, List.length_map] at l2
    obtain ⟨s1, s2⟩ := s
    cases s2 with
    | nil => exact absurd rfl e
    | cons z zs =>
      cases nw with
      | nil => simp
      | cons q qs => simp only [List.length_append, List.length_map, List.length_cons] at l2 ⊢; omega
end

/-! Common parts; two steps on a bench. -/
theorem gcd_whl : ∀ (k : Nat) (n m : Nat) (N : Nat), m < 2 ^ k → 2 * k + 2 ≤ N → Out.whl (σ := Int × Int) (fun s3 => Out.ok (!decide (s3.2 = (0 : Int)))) (fun s3 => (Out.guard (0 < s3.2)).bind fun _ => (Out.ok s3.2).bind fun one7 => (Out.ok (s3.1 % s3.2)).bind fun other8 => Out.ok (one7, other8)) N ((n : Int), (m : Int)) = .ok ((Nat.gcd n m : Nat), 0) := by
  intro k
  induction k with
  | zero =>
    intro n m N hm hN
    have : m = 0 := by omega
    subst this
    match N, hN with
    | N + 1, _ => simp [Out.whl]
  | succ k ih =>
    intro n m N hm hN
    match N, hN with
    | N + 2, hN =>
      by_cases h0 : m = 0
      · subst h0; simp [Out.whl]
      · have hp : 0 < m := by omega
        unfold Out.whl
        rw [Out.bind_ok, if_pos (by simp; omega), Out.bind_guard (by show (0 : Int) < (m : Int); omega), Out.bind_ok, Out.bind_ok, Out.bind_ok]
        show Out.whl _ _ (N + 1) ((m : Int), (n : Int) % (m : Int)) = _
        rw [← Int.natCast_emod]
        rw [Nat.gcd_comm n m, Nat.gcd_rec m n, Nat.gcd_comm (n % m) m]
        have hlt := Nat.mod_lt n hp
        by_cases h1 : n % m = 0
        · rw [h1]; simp [Out.whl]
        · unfold Out.whl
          rw [Out.bind_ok, if_pos (by simp; omega), Out.bind_guard (by show (0 : Int) < ((n % m : Nat) : Int); omega), Out.bind_ok, Out.bind_ok, Out.bind_ok]
          show Out.whl _ _ N (((n % m : Nat) : Int), (m : Int) % ((n % m : Nat) : Int)) = _
          rw [← Int.natCast_emod]
          rw [Nat.gcd_comm m (n % m), Nat.gcd_rec (n % m) m, Nat.gcd_comm (m % (n % m)) (n % m)]
          apply ih
          · have h3 := Nat.mod_lt m (show 0 < n % m by omega)
            have h4 := Nat.div_add_mod m (n % m)
            have h5 : 1 ≤ m / (n % m) := Nat.div_pos (by omega) (by omega)
            have h6 : n % m * 1 ≤ n % m * (m / (n % m)) := Nat.mul_le_mul_left _ h5
            rw [Nat.pow_succ] at hm
            omega
          · omega
theorem bezout : ∀ (a b : Nat), ∃ x y : Int, (a : Int) * x + (b : Int) * y = (Nat.gcd a b : Nat) := by
  intro a
  induction a using Nat.strongRecOn with
  | ind a ih =>
    intro b
    rcases Nat.eq_zero_or_pos a with h | h
    · subst h; exact ⟨0, 1, by simp⟩
    · obtain ⟨x, y, e⟩ := ih (b % a) (Nat.mod_lt _ h) a
      rw [Nat.gcd_rec a b, ← e]
      refine ⟨y - (b / a : Nat) * x, x, ?_⟩
      have hd : (b : Int) = (a : Int) * ((b / a : Nat) : Int) + ((b % a : Nat) : Int) := by
        have := Nat.div_add_mod b a
        have h2 : ((a * (b / a) + b % a : Nat) : Int) = (b : Int) := by rw [this]
        rw [← h2, Int.natCast_add, Int.natCast_mul]
      rw [hd]
      generalize ((b / a : Nat) : Int) = q
      generalize ((b % a : Nat) : Int) = r
      simp only [Int.mul_sub, Int.add_mul, Int.mul_assoc]
      have : (a : Int) * (q * x) = (a : Int) * q * x := by rw [Int.mul_assoc]
      omega
inductive Rch (R : Int → Int → Prop) : Int → Int → Prop
  | refl (x : Int) : Rch R x x
  | step {x y z : Int} : Rch R x y → R y z → Rch R x z
theorem Rch.trans {R : Int → Int → Prop} {x y z : Int} (h : Rch R x y) (k : Rch R y z) : Rch R x z := by
  induction k with
  | refl => exact h
  | step _ r ih => exact ih.step r
theorem Rch.one {R : Int → Int → Prop} {x y : Int} (h : R x y) : Rch R x y := (Rch.refl x).step h
theorem Rch.symm {R : Int → Int → Prop} (hs : ∀ a b, R a b → R b a) {x y : Int} (h : Rch R x y) : Rch R y x := by
  induction h with
  | refl => exact .refl _
  | step _ r ih => exact (Rch.one (hs _ _ r)).trans ih
/-- two steps on a bench -/
def RA (e a b : Int) (x y : Int) : Prop := 0 ≤ x ∧ x ≤ e ∧ 0 ≤ y ∧ y ≤ e ∧ (y = x + a ∨ y = x - a ∨ y = x + b ∨ y = x - b)
theorem RA.symm {e a b x y : Int} (h : RA e a b x y) : RA e a b y x := by unfold RA at *; omega
theorem cancel_dvd {n p x : Int} (hw : ∃ w k : Int, p * w = 1 + n * k) (h : n ∣ x * p) : n ∣ x := by
  obtain ⟨w, k, e⟩ := hw
  obtain ⟨c, hc⟩ := h
  refine ⟨c * w - k * x, ?_⟩
  have h1 : x * (p * w) = x + x * (n * k) := by rw [e, Int.mul_add, Int.mul_one]
  have h2 : x * (p * w) = n * (c * w) := by rw [← Int.mul_assoc, hc, Int.mul_assoc]
  rw [Int.mul_sub, ← h2, h1]
  have : x * (n * k) = n * (k * x) := by rw [Int.mul_left_comm, Int.mul_comm x k]
  omega
/-- coprime steps: an inverse by their sum -/
theorem inv_sum {p q : Nat} (h : Nat.gcd p q = 1) : ∃ w k : Int, (p : Int) * w = 1 + ((p : Int) + q) * k := by
  obtain ⟨x, y, e⟩ := bezout p q
  rw [h] at e
  refine ⟨x - y, -y, ?_⟩
  rw [Int.mul_sub, Int.mul_neg, Int.add_mul]
  have : ((1 : Nat) : Int) = 1 := rfl
  omega
theorem small_dvd {n x : Int} (h : n ∣ x) (h1 : 0 < x) (h2 : x < n) : False := by
  have := Int.le_of_dvd h1 h; omega
/-- enough room: all places can be come to -/
theorem conn {p q : Nat} (hp : 1 ≤ p) (hq : 1 ≤ q) (hc : Nat.gcd p q = 1) {e : Int} (he : (p : Int) + q - 2 ≤ e) {x y : Int} (hx : 0 ≤ x) (hx2 : x ≤ e) (hy : 0 ≤ y) (hy2 : y ≤ e) : Rch (RA e p q) x y := by
  obtain ⟨w, k, hw⟩ := inv_sum hc
  have claim : ∀ j : Nat, 1 ≤ j → (j : Int) ≤ (p : Int) + q - 1 → ∃ y : Int, 0 ≤ y ∧ y ≤ (p : Int) + q - 2 ∧ ((p : Int) + q) ∣ y + 1 - j * p ∧ Rch (RA e p q) ((p : Int) - 1) y := by
    intro j
    induction j with
    | zero => intro h; omega
    | succ j ih =>
      intro _ hj
      rcases Nat.eq_zero_or_pos j with z | z
      · subst z
        exact ⟨(p : Int) - 1, by omega, by omega, ⟨0, by simp⟩, .refl _⟩
      · obtain ⟨y, h1, h2, ⟨c, h3⟩, h4⟩ := ih z (by omega)
        by_cases e1 : y ≤ (q : Int) - 2
        · refine ⟨y + p, by omega, by omega, ⟨c, ?_⟩, h4.step ⟨h1, by omega, by omega, by omega, .inl rfl⟩⟩
          rw [← h3, Int.natCast_succ, Int.add_mul]; omega
        · by_cases e2 : y = (q : Int) - 1
          · exfalso
            have hd : ((p : Int) + q) ∣ ((j : Int) + 1) * p := by
              refine ⟨1 - c, ?_⟩
              rw [Int.mul_sub, ← h3, e2, Int.add_mul]; omega
            exact small_dvd (cancel_dvd ⟨w, k, hw⟩ hd) (by omega) (by omega)
          · refine ⟨y - q, by omega, by omega, ⟨c - 1, ?_⟩, h4.step ⟨h1, by omega, by omega, by omega, .inr (.inr (.inr rfl))⟩⟩
            rw [Int.mul_sub, ← h3, Int.natCast_succ, Int.add_mul]; omega
  have win : ∀ y : Int, 0 ≤ y → y ≤ (p : Int) + q - 2 → Rch (RA e p q) ((p : Int) - 1) y := by
    intro y h1 h2
    have hn : (0 : Int) < (p : Int) + q := by omega
    have hdiv : ((p : Int) + q) ∣ y + 1 - ((y + 1) * w % ((p : Int) + q)) * p := by
      have h3 := Int.mul_ediv_add_emod ((y + 1) * w) ((p : Int) + q)
      refine ⟨((y + 1) * w / ((p : Int) + q)) * p - (y + 1) * k, ?_⟩
      have h4 : (y + 1) * w % ((p : Int) + q) = (y + 1) * w - ((p : Int) + q) * ((y + 1) * w / ((p : Int) + q)) := by omega
      rw [h4]
      generalize (y + 1) * w / ((p : Int) + q) = c
      rw [Int.sub_mul, Int.mul_sub]
      have h5 : (y + 1) * w * p = (y + 1) + ((p : Int) + q) * ((y + 1) * k) := by
        rw [Int.mul_assoc, Int.mul_comm w p, hw, Int.mul_add, Int.mul_one, Int.mul_left_comm]
      rw [h5, Int.mul_assoc]; omega
    have hj0 := Int.emod_nonneg ((y + 1) * w) (show (p : Int) + q ≠ 0 by omega)
    have hj1 := Int.emod_lt_of_pos ((y + 1) * w) hn
    generalize (y + 1) * w % ((p : Int) + q) = j at hdiv hj0 hj1
    have hj : j ≠ 0 := by
      rintro rfl
      rw [Int.zero_mul, Int.sub_zero] at hdiv
      exact small_dvd hdiv (by omega) (by omega)
    obtain ⟨z, h5, h6, h7, h8⟩ := claim j.toNat (by omega) (by omega)
    rw [Int.toNat_of_nonneg hj0] at h7
    have hzy : z = y := by
      have hd : ((p : Int) + q) ∣ (z - y) := by
        have := Int.dvd_sub h7 hdiv
        rw [show z + 1 - j * (p : Int) - (y + 1 - j * p) = z - y by omega] at this
        exact this
      rcases Int.lt_trichotomy z y with g | g | g
      · exfalso
        have : ((p : Int) + q) ∣ (y - z) := by rw [show y - z = -(z - y) by omega]; exact Int.dvd_neg.mpr hd
        exact small_dvd this (by omega) (by omega)
      · exact g
      · exact (small_dvd hd (by omega) (by omega)).elim
    exact hzy ▸ h8
  have all : ∀ (m : Nat) (y : Int), 0 ≤ y → y ≤ e → y ≤ (p : Int) + q - 2 + m → Rch (RA e p q) ((p : Int) - 1) y := by
    intro m
    induction m using Nat.strongRecOn with
    | ind m ih =>
      intro y h1 h2 h3
      by_cases h4 : y ≤ (p : Int) + q - 2
      · exact win y h1 h4
      · by_cases hm : m = 0
        · subst hm; omega
        · refine (ih (m - 1) (by omega) (y - p) (by omega) (by omega) (by omega)).step ⟨by omega, by omega, h1, h2, .inl (by omega)⟩
  exact ((all y.toNat y hy hy2 (by omega)).symm (fun _ _ h => h.symm) |>.symm (fun _ _ h => h.symm) |> fun h => (((all x.toNat x hx hx2 (by omega)).symm fun _ _ h => h.symm).trans h))
/-- one place less: some place cannot be come to -/
theorem disc {p q : Nat} (hp : 2 ≤ p) (hq : 2 ≤ q) (hc : Nat.gcd p q = 1) : ∃ y : Int, 0 ≤ y ∧ y ≤ (p : Int) + q - 3 ∧ ¬ Rch (RA ((p : Int) + q - 3) p q) 0 y := by
  obtain ⟨w, k, hw⟩ := inv_sum hc
  have hn : (0 : Int) < (p : Int) + q := by omega
  have hj0 := Int.emod_nonneg w (show (p : Int) + q ≠ 0 by omega)
  have hj1 := Int.emod_lt_of_pos w hn
  have hdiv : ((p : Int) + q) ∣ 1 - (w % ((p : Int) + q)) * p := by
    have h3 := Int.mul_ediv_add_emod w ((p : Int) + q)
    refine ⟨(w / ((p : Int) + q)) * p - k, ?_⟩
    have h4 : w % ((p : Int) + q) = w - ((p : Int) + q) * (w / ((p : Int) + q)) := by omega
    rw [h4]
    generalize w / ((p : Int) + q) = c
    rw [Int.sub_mul, Int.mul_sub, Int.mul_comm w p, hw, ← Int.mul_assoc]; omega
  generalize w % ((p : Int) + q) = j at hdiv hj0 hj1
  have canc : ∀ x : Int, ((p : Int) + q) ∣ x * p → ((p : Int) + q) ∣ x := fun x h => cancel_dvd ⟨w, k, hw⟩ h
  have hz : j ≠ 0 := by rintro rfl; rw [Int.zero_mul, Int.sub_zero] at hdiv; exact small_dvd hdiv (by omega) (by omega)
  have h1 : j ≠ 1 := by
    rintro rfl
    rw [Int.one_mul] at hdiv
    have : ((p : Int) + q) ∣ (p : Int) - 1 := by rw [show (p : Int) - 1 = -(1 - p) by omega]; exact Int.dvd_neg.mpr hdiv
    exact small_dvd this (by omega) (by omega)
  have h2 : j ≠ (p : Int) + q - 1 := by
    rintro rfl
    have : ((p : Int) + q) ∣ (p : Int) + 1 := by
      obtain ⟨c, hc⟩ := hdiv
      refine ⟨c + p, ?_⟩
      rw [Int.mul_add, ← hc, Int.sub_mul, Int.one_mul]; omega
    exact small_dvd this (by omega) (by omega)
  have h3 : 2 * j ≠ (p : Int) + q := by
    intro z
    have : ((p : Int) + q) ∣ 2 := by
      obtain ⟨c, hc⟩ := hdiv
      refine ⟨2 * c + p, ?_⟩
      have e1 : ((p : Int) + q) * (2 * c + p) = 2 * (((p : Int) + q) * c) + ((p : Int) + q) * p := by rw [Int.mul_add, Int.mul_left_comm]
      have e2 : ((p : Int) + q) * p = 2 * (j * p) := by rw [← z, Int.mul_assoc]
      rw [e1, ← hc, e2]; omega
    exact small_dvd this (by omega) (by omega)
  -- the index of a place
  have inv : ∀ (lo hi : Int), 0 ≤ lo → hi ≤ (p : Int) + q → (∀ y, 0 ≤ y → y ≤ (p : Int) + q - 3 → ¬ ((p : Int) + q) ∣ y + 1 - lo * p) → (∀ y, 0 ≤ y → y ≤ (p : Int) + q - 3 → ¬ ((p : Int) + q) ∣ y + 1 - hi * p) → lo < j → j < hi →
      ∀ y, Rch (RA ((p : Int) + q - 3) p q) 0 y → ∃ i, lo < i ∧ i < hi ∧ ((p : Int) + q) ∣ y + 1 - i * p := by
    intro lo hi hlo hhi nlo nhi hl hh y hr
    induction hr with
    | refl => exact ⟨j, hl, hh, by rw [Int.zero_add]; exact hdiv⟩
    | step _ r ih =>
      obtain ⟨i, i1, i2, c, i3⟩ := ih
      obtain ⟨r1, r2, r3, r4, r5⟩ := r
      have up : ∀ z : Int, 0 ≤ z → z ≤ (p : Int) + q - 3 → ((p : Int) + q) ∣ z + 1 - (i + 1) * p → ∃ i, lo < i ∧ i < hi ∧ ((p : Int) + q) ∣ z + 1 - i * p := by
        intro z z1 z2 z3
        refine ⟨i + 1, by omega, ?_, z3⟩
        rcases Int.lt_or_le (i + 1) hi with g | g
        · exact g
        · exact absurd (show ((p : Int) + q) ∣ z + 1 - hi * p by rw [show hi = i + 1 by omega]; exact z3) (nhi z z1 z2)
      have dn : ∀ z : Int, 0 ≤ z → z ≤ (p : Int) + q - 3 → ((p : Int) + q) ∣ z + 1 - (i - 1) * p → ∃ i, lo < i ∧ i < hi ∧ ((p : Int) + q) ∣ z + 1 - i * p := by
        intro z z1 z2 z3
        refine ⟨i - 1, ?_, by omega, z3⟩
        rcases Int.lt_or_le lo (i - 1) with g | g
        · exact g
        · exact absurd (show ((p : Int) + q) ∣ z + 1 - lo * p by rw [show lo = i - 1 by omega]; exact z3) (nlo z z1 z2)
      rcases r5 with r5 | r5 | r5 | r5
      · exact up _ r3 r4 ⟨c, by rw [← i3, r5, Int.add_mul]; omega⟩
      · exact dn _ r3 r4 ⟨c, by rw [← i3, r5, Int.sub_mul]; omega⟩
      · exact dn _ r3 r4 ⟨c + 1, by rw [Int.mul_add, ← i3, r5, Int.sub_mul]; omega⟩
      · exact up _ r3 r4 ⟨c - 1, by rw [Int.mul_sub, ← i3, r5, Int.add_mul]; omega⟩
  have n0 : ∀ y, 0 ≤ y → y ≤ (p : Int) + q - 3 → ¬ ((p : Int) + q) ∣ y + 1 - 0 * p := by
    intro y y1 y2 h; rw [Int.zero_mul, Int.sub_zero] at h; exact small_dvd h (by omega) (by omega)
  have nn : ∀ y, 0 ≤ y → y ≤ (p : Int) + q - 3 → ¬ ((p : Int) + q) ∣ y + 1 - ((p : Int) + q) * p := by
    intro y y1 y2 ⟨c, h⟩
    exact small_dvd (n := (p : Int) + q) (x := y + 1) ⟨c + p, by rw [Int.mul_add, ← h]; omega⟩ (by omega) (by omega)
  have nc : ∀ y, 0 ≤ y → y ≤ (p : Int) + q - 3 → ¬ ((p : Int) + q) ∣ y + 1 - ((p : Int) + q - j) * p := by
    intro y y1 y2 ⟨c, h⟩
    obtain ⟨d, hd⟩ := hdiv
    refine small_dvd (n := (p : Int) + q) (x := y + 2) ⟨c + d + p, ?_⟩ (by omega) (by omega)
    rw [Int.mul_add, Int.mul_add, ← h, ← hd, Int.sub_mul]; omega
  by_cases hlow : j < (p : Int) + q - j
  · refine ⟨(q : Int) - 1, by omega, by omega, fun hr => ?_⟩
    obtain ⟨i, i1, i2, c, i3⟩ := inv 0 _ (by omega) (by omega) n0 nc (by omega) hlow _ hr
    have : ((p : Int) + q) ∣ ((p : Int) + q - 1 - i) * p := by
      refine ⟨c - 1 + p, ?_⟩
      rw [Int.mul_add, Int.mul_sub, ← i3, Int.sub_mul, Int.sub_mul]; omega
    exact small_dvd (canc _ this) (by omega) (by omega)
  · refine ⟨(p : Int) - 1, by omega, by omega, fun hr => ?_⟩
    obtain ⟨i, i1, i2, c, i3⟩ := inv _ _ (by omega) (Int.le_refl _) nc nn (by omega) hj1 _ hr
    have : ((p : Int) + q) ∣ (i - 1) * p := by
      refine ⟨-c, ?_⟩
      rw [Int.mul_neg, ← i3, Int.sub_mul]; omega
    exact small_dvd (canc _ this) (by omega) (by omega)

/-! Walks. -/
section
variable {nbr : Int → List Int} {b : Int}
theorem wkn_rch {x : Int} : (∃ n, Wkn nbr b n x) ↔ Rch (fun x y => y ∈ nbr x) b x := by
  constructor
  · rintro ⟨n, h⟩
    induction n generalizing x with
    | zero => cases (show x = b from h); exact .refl _
    | succ n ih => obtain ⟨y, h1, h2⟩ := h; exact (ih h1).step h2
  · intro h
    induction h with
    | refl => exact ⟨0, rfl⟩
    | step _ r ih => obtain ⟨n, h⟩ := ih; exact ⟨n + 1, _, h, r⟩
theorem Wkn.add {n m : Nat} {x y : Int} (h : Wkn nbr b n y) (k : Wkn nbr y m x) : Wkn nbr b (n + m) x := by
  induction m generalizing x with
  | zero => cases (show x = y from k); exact h
  | succ m ih => obtain ⟨z, h1, h2⟩ := k; exact ⟨z, ih h1, h2⟩
theorem Wkn.one {x : Int} (h : x ∈ nbr b) : Wkn nbr b 1 x := ⟨b, rfl, h⟩
theorem Wkn.inv {P : Int → Prop} (hs : ∀ x y, P x → y ∈ nbr x → P y) (hb : P b) : ∀ {n : Nat} {x : Int}, Wkn nbr b n x → P x
  | 0, x, h => by cases (show x = b from h); exact hb
  | n + 1, x, ⟨y, h1, h2⟩ => hs y x (Wkn.inv hs hb h1) h2
theorem Wkn.symm {P : Int → Prop} (hs : ∀ x y, P x → y ∈ nbr x → P y ∧ x ∈ nbr y) (hb : P b) : ∀ {n : Nat} {x : Int}, Wkn nbr b n x → Wkn nbr x n b
  | 0, x, h => by cases (show x = b from h); exact rfl
  | n + 1, x, ⟨y, h1, h2⟩ => by
    have hy : P y := Wkn.inv (fun x y a c => (hs x y a c).1) hb h1
    have := (Wkn.one (hs y x hy h2).2).add (Wkn.symm hs hb h1)
    rw [Nat.add_comm] at this; exact this
theorem Dst.symm {P : Int → Prop} (hs : ∀ x y, P x → y ∈ nbr x → P y ∧ x ∈ nbr y) (hb : P b) {n : Nat} {x : Int} (h : Dst nbr b n x) : Dst nbr x n b := by
  have hx : P x := Wkn.inv (fun x y a c => (hs x y a c).1) hb h.1
  exact ⟨h.1.symm hs hb, fun m hm hw => h.2 m hm (hw.symm hs hx)⟩
/-- a place of each smaller distance -/
theorem Dst.count : ∀ {n : Nat} {x : Int}, Dst nbr b n x → ∃ ys : List Int, ys.length = n + 1 ∧ ys.Nodup ∧ ∀ y, y ∈ ys → ∃ m, m ≤ n ∧ Dst nbr b m y
  | 0, x, h => ⟨[x], rfl, by simp, fun y hy => by rw [List.mem_singleton] at hy; subst hy; exact ⟨0, Nat.le_refl _, h⟩⟩
  | n + 1, x, h => by
    obtain ⟨y, h1, h2⟩ := h.1
    have hy : Dst nbr b n y := ⟨h1, fun m hm hw => h.2 (m + 1) (by omega) ⟨y, hw, h2⟩⟩
    obtain ⟨ys, k1, k2, k3⟩ := hy.count
    refine ⟨x :: ys, by rw [List.length_cons, k1], ?_, fun z hz => ?_⟩
    · rw [List.nodup_cons]
      refine ⟨fun hx => ?_, k2⟩
      obtain ⟨m, hm, hd⟩ := k3 x hx
      have := hd.uniq h
      omega
    · rcases List.mem_cons.mp hz with rfl | hz
      · exact ⟨n + 1, Nat.le_refl _, h⟩
      · obtain ⟨m, hm, hd⟩ := k3 z hz; exact ⟨m, by omega, hd⟩
theorem Bfs.dist_lt {found : List (Int × Int)} (h : Bfs nbr b found) {x d : Int} (hd : dget found x = some d) : 0 ≤ d ∧ d + 1 ≤ found.length := by
  obtain ⟨n, rfl, hn⟩ := (h.val x d).mp hd
  obtain ⟨ys, h1, h2, h3⟩ := hn.count
  have := nodup_len (U := keys found) h2 fun y hy => by obtain ⟨m, _, hm⟩ := h3 y hy; exact (h.has y).mpr ⟨m, hm.1⟩
  unfold keys at this
  rw [List.length_map] at this
  omega
end

/-! Rings: what can be come to. -/
/-- what is closed under differences is what one number divides -/
theorem principal {D : Int → Prop} (hs : ∀ x y, D x → D y → D (x - y)) {m : Int} (hm : D m) (hp : 0 < m) : ∃ d, 0 < d ∧ D d ∧ ∀ x, D x → d ∣ x := by
  have h0 : D 0 := by have := hs m m hm hm; rwa [Int.sub_self] at this
  have hneg : ∀ x, D x → D (-x) := fun x hx => by have := hs 0 x h0 hx; rwa [Int.zero_sub] at this
  have hadd : ∀ x y, D x → D y → D (x + y) := fun x y hx hy => by have := hs x (-y) hx (hneg y hy); rwa [Int.sub_neg] at this
  have hmulN : ∀ (k : Nat) x, D x → D (x * k) := by
    intro k
    induction k with
    | zero => intro x _; simpa using h0
    | succ k ih => intro x hx; rw [Int.natCast_succ, Int.mul_add, Int.mul_one]; exact hadd _ _ (ih x hx) hx
  have hmul : ∀ (k : Int) x, D x → D (x * k) := by
    intro k x hx
    rcases Int.le_total 0 k with z | z
    · obtain ⟨n, rfl⟩ := Int.eq_ofNat_of_zero_le z; exact hmulN n x hx
    · obtain ⟨n, hn⟩ := Int.eq_ofNat_of_zero_le (show 0 ≤ -k by omega)
      have := hneg _ (hmulN n x hx)
      rw [← Int.mul_neg, show -(n : Int) = k by omega] at this; exact this
  have least : ∀ n : Nat, (∃ d : Nat, d ≤ n ∧ 0 < d ∧ D d) → ∃ d : Nat, 0 < d ∧ D d ∧ ∀ e : Nat, 0 < e → D e → d ≤ e := by
    intro n
    induction n with
    | zero => rintro ⟨d, h1, h2, _⟩; omega
    | succ n ih =>
      rintro ⟨d, h1, h2, h3⟩
      by_cases z : ∃ e : Nat, e ≤ n ∧ 0 < e ∧ D e
      · exact ih z
      · refine ⟨d, h2, h3, fun e he hd => ?_⟩
        rcases Nat.lt_or_ge e d with w | w
        · exact absurd ⟨e, by omega, he, hd⟩ z
        · exact w
  obtain ⟨d, d1, d2, d3⟩ := least m.toNat ⟨m.toNat, Nat.le_refl _, by omega, by rw [Int.toNat_of_nonneg (by omega)]; exact hm⟩
  refine ⟨d, by omega, d2, fun x hx => ?_⟩
  apply Int.dvd_of_emod_eq_zero
  have hr : D (x % d) := by
    have := hs x _ hx (hmul (x / d) d d2)
    rwa [show x - (d : Int) * (x / d) = x % d by have := Int.mul_ediv_add_emod x d; omega] at this
  have r0 := Int.emod_nonneg x (show (d : Int) ≠ 0 by omega)
  have r1 := Int.emod_lt_of_pos x (show (0 : Int) < d by omega)
  apply Classical.byContradiction
  intro z
  have := d3 (x % d).toNat (by omega) (by rw [Int.toNat_of_nonneg r0]; exact hr)
  omega
/-- a ring's step -/
def RR (S : Int → Prop) (m : Int) (x y : Int) : Prop := ∃ s, S s ∧ y = (x + s) % m
theorem emod_add_cancel (a b m : Int) : (a % m + b) % m = (a + b) % m := Int.emod_add_emod a m b
theorem ring_mem {S : Int → Prop} {m c : Int} (hm : 0 < m) (hneg : ∀ s, S s → S (-s)) (hc : ∀ s, S s → c ∣ s) (hu : ∀ d : Int, (∀ s, S s → d ∣ s) → d ∣ c) {G : Int} (hG1 : G ∣ c) (hG2 : G ∣ m) (hG : ∀ d : Int, d ∣ c → d ∣ m → d ∣ G) {x y : Int} (hx : 0 ≤ x ∧ x < m) : Rch (RR S m) x y ↔ 0 ≤ y ∧ y < m ∧ G ∣ y - x := by
  have emod_dvd : ∀ a, G ∣ a % m - a := fun a => by
    have := Int.mul_ediv_add_emod a m
    rw [show a % m - a = -(m * (a / m)) by omega]
    exact Int.dvd_neg.mpr (Int.dvd_trans hG2 ⟨a / m, rfl⟩)
  constructor
  · intro h
    induction h with
    | refl => exact ⟨hx.1, hx.2, by rw [Int.sub_self]; exact Int.dvd_zero _⟩
    | step _ r ih =>
      obtain ⟨s, hs, rfl⟩ := r
      refine ⟨Int.emod_nonneg _ (by omega), Int.emod_lt_of_pos _ hm, ?_⟩
      rename_i b _
      have h1 := emod_dvd (b + s)
      have h2 : G ∣ s := Int.dvd_trans hG1 (hc s hs)
      have h3 := Int.dvd_add (Int.dvd_add h1 h2) ih.2.2
      rwa [show (b + s) % m - (b + s) + s + (b - x) = (b + s) % m - x by omega] at h3
  · rintro ⟨y0, y1, yd⟩
    have hsym : ∀ a b, (0 ≤ a ∧ a < m) → RR S m a b → RR S m b a := by
      rintro a b ha ⟨s, hs, rfl⟩
      refine ⟨-s, hneg s hs, ?_⟩
      rw [emod_add_cancel, show a + s + -s = a by omega, Int.emod_eq_of_lt ha.1 ha.2]
    have hin : ∀ {a b}, (0 ≤ a ∧ a < m) → Rch (RR S m) a b → 0 ≤ b ∧ b < m := by
      intro a b ha h
      induction h with
      | refl => exact ha
      | step _ r _ => obtain ⟨s, _, rfl⟩ := r; exact ⟨Int.emod_nonneg _ (by omega), Int.emod_lt_of_pos _ hm⟩
    have hrsym : ∀ {a b}, (0 ≤ a ∧ a < m) → Rch (RR S m) a b → Rch (RR S m) b a := by
      intro a b ha h
      induction h with
      | refl => exact .refl _
      | step h1 r ih => exact (Rch.one (hsym _ _ (hin ha h1) r)).trans ih
    let D : Int → Prop := fun d => ∀ p, 0 ≤ p → p < m → Rch (RR S m) p ((p + d) % m)
    have hdm : D m := fun p p0 p1 => by rw [Int.add_emod_right, Int.emod_eq_of_lt p0 p1]; exact .refl _
    have hadd : ∀ u v, D u → D v → D (u + v) := fun u v hu hv p p0 p1 => by
      have h1 := hu p p0 p1
      have h2 := hv ((p + u) % m) (Int.emod_nonneg _ (by omega)) (Int.emod_lt_of_pos _ hm)
      rw [emod_add_cancel, show p + u + v = p + (u + v) by omega] at h2
      exact h1.trans h2
    have hngD : ∀ u, D u → D (-u) := fun u hu p p0 p1 => by
      have hq : 0 ≤ (p + -u) % m ∧ (p + -u) % m < m := ⟨Int.emod_nonneg _ (by omega), Int.emod_lt_of_pos _ hm⟩
      have h1 := hu ((p + -u) % m) hq.1 hq.2
      rw [emod_add_cancel, show p + -u + u = p by omega, Int.emod_eq_of_lt p0 p1] at h1
      exact hrsym hq h1
    have hsub : ∀ u v, D u → D v → D (u - v) := fun u v hu hv => by
      have := hadd u (-v) hu (hngD v hv); rwa [← Int.sub_eq_add_neg] at this
    have hstep : ∀ s, S s → D s := fun s hs p _ _ => .one ⟨s, hs, rfl⟩
    obtain ⟨d, d0, d1, d2⟩ := principal hsub hdm hm
    have hdG : d ∣ G := hG d (hu d fun s hs => d2 s (hstep s hs)) (d2 m hdm)
    obtain ⟨k, hk⟩ := Int.dvd_trans hdG yd
    have hmulN : ∀ (k : Nat), D (d * k) := by
      intro k
      induction k with
      | zero => rw [show d * ((0 : Nat) : Int) = m - m by simp]; exact hsub _ _ hdm hdm
      | succ k ih => rw [Int.natCast_succ, Int.mul_add, Int.mul_one]; exact hadd _ _ ih d1
    have hmul : D (d * k) := by
      rcases Int.le_total 0 k with z | z
      · obtain ⟨n, rfl⟩ := Int.eq_ofNat_of_zero_le z; exact hmulN n
      · obtain ⟨n, hn⟩ := Int.eq_ofNat_of_zero_le (show 0 ≤ -k by omega)
        have := hngD _ (hmulN n)
        rwa [← Int.mul_neg, show -(n : Int) = k by omega] at this
    have := hmul x hx.1 hx.2
    rwa [← hk, show x + (y - x) = y by omega, Int.emod_eq_of_lt y0 y1] at this

/-! Numbers by which one has to be multiplied for a rest of 1. -/
theorem inv_whl {value size : Int} : ∀ (k : Nat) (n m : Nat) (l r : Int) (N : Nat), m < 2 ^ k → n < 2 ^ 63 → m < 2 ^ 63 → 2 * k + 2 ≤ N → size ∣ (n : Int) - l * value → size ∣ (m : Int) - r * value →
    (Out.whl (σ := Int × Int × Int × Int) (fun s7 => Out.ok (!decide (s7.2.1 = (0 : Int)))) (fun s7 =>
      (Out.guard (0 < s7.2.1 ∧ s7.2.1 < 2 ^ 200)).bind fun _ =>
      (Out.ok (s7.1 / s7.2.1)).bind fun times11 =>
      (Out.guard ((-(2 ^ 64) < times11 ∧ times11 < 2 ^ 64) ∨ (-(2 ^ 64) < s7.2.1 ∧ s7.2.1 < 2 ^ 64))).bind fun _ =>
      (Out.ok s7.2.1).bind fun one13 =>
      (Out.ok (s7.1 - (times11 * s7.2.1))).bind fun other14 =>
      (Out.guard ((-(2 ^ 64) < times11 ∧ times11 < 2 ^ 64) ∨ (-(2 ^ 64) < s7.2.2.2 ∧ s7.2.2.2 < 2 ^ 64))).bind fun _ =>
      (Out.ok s7.2.2.2).bind fun left16 =>
      (Out.ok (s7.2.2.1 - (times11 * s7.2.2.2))).bind fun right17 =>
      Out.ok (one13, other14, left16, right17)) N ((n : Int), (m : Int), l, r)).yes fun s => s.1 = ((Nat.gcd n m : Nat) : Int) ∧ size ∣ s.1 - s.2.2.1 * value := by
  have turn : ∀ (n m : Nat) (l r : Int), 0 < m → n < 2 ^ 63 → m < 2 ^ 63 → size ∣ (n : Int) - l * value → size ∣ (m : Int) - r * value →
      ((Out.guard (0 < (m : Int) ∧ (m : Int) < 2 ^ 200)).bind fun _ =>
      (Out.ok ((n : Int) / (m : Int))).bind fun times11 =>
      (Out.guard ((-(2 ^ 64) < times11 ∧ times11 < 2 ^ 64) ∨ (-(2 ^ 64) < (m : Int) ∧ (m : Int) < 2 ^ 64))).bind fun _ =>
      (Out.ok (m : Int)).bind fun one13 =>
      (Out.ok ((n : Int) - (times11 * (m : Int)))).bind fun other14 =>
      (Out.guard ((-(2 ^ 64) < times11 ∧ times11 < 2 ^ 64) ∨ (-(2 ^ 64) < r ∧ r < 2 ^ 64))).bind fun _ =>
      (Out.ok r).bind fun left16 =>
      (Out.ok (l - (times11 * r))).bind fun right17 =>
      Out.ok (one13, other14, left16, right17)) = .ok ((m : Int), ((n % m : Nat) : Int), r, l - (n : Int) / (m : Int) * r) ∧ size ∣ ((n % m : Nat) : Int) - (l - (n : Int) / (m : Int) * r) * value := by
    intro n m l r hm hn hm2 d1 d2
    have q0 : 0 ≤ (n : Int) / (m : Int) := Int.ediv_nonneg (by omega) (by omega)
    have q1 : (n : Int) / (m : Int) ≤ (n : Int) := Int.ediv_le_self _ (by omega)
    have hmod : (n : Int) - (n : Int) / (m : Int) * (m : Int) = ((n % m : Nat) : Int) := by
      rw [Int.natCast_emod]
      have := Int.mul_ediv_add_emod (n : Int) (m : Int)
      rw [Int.mul_comm]; omega
    constructor
    · rw [Out.bind_guard ⟨by omega, by omega⟩, Out.bind_ok, Out.bind_guard (.inl ⟨by omega, by omega⟩), Out.bind_ok, Out.bind_ok, Out.bind_guard (.inl ⟨by omega, by omega⟩), Out.bind_ok, Out.bind_ok, hmod]
    · rw [← hmod]
      generalize (n : Int) / (m : Int) = q
      obtain ⟨c1, e1⟩ := d1
      obtain ⟨c2, e2⟩ := d2
      refine ⟨c1 - q * c2, ?_⟩
      rw [Int.mul_sub, ← e1, Int.mul_left_comm, ← e2, Int.mul_sub, Int.sub_mul, Int.mul_assoc q r value]
      omega
  intro k
  induction k with
  | zero =>
    intro n m l r N hm hn hm2 hN d1 d2
    have : m = 0 := by omega
    subst this
    match N, hN with
    | N + 1, _ =>
      unfold Out.whl
      rw [Out.bind_ok, if_neg (by simp)]
      exact Out.yes_ok ⟨by simp, d1⟩
  | succ k ih =>
    intro n m l r N hm hn hm2 hN d1 d2
    match N, hN with
    | N + 2, hN =>
      by_cases h0 : m = 0
      · subst h0
        unfold Out.whl
        rw [Out.bind_ok, if_neg (by simp)]
        exact Out.yes_ok ⟨by simp, d1⟩
      · have hp : 0 < m := by omega
        obtain ⟨t1, t2⟩ := turn n m l r hp hn hm2 d1 d2
        unfold Out.whl
        rw [Out.bind_ok, if_pos (by simp; omega)]
        rw [show ((n : Int), (m : Int), l, r).2.1 = (m : Int) from rfl]
        dsimp only
        rw [t1, Out.bind_ok]
        rw [Nat.gcd_comm n m, Nat.gcd_rec m n, Nat.gcd_comm (n % m) m]
        have hlt := Nat.mod_lt n hp
        by_cases h1 : n % m = 0
        · rw [h1] at t2 ⊢
          unfold Out.whl
          rw [Out.bind_ok, if_neg (by simp)]
          exact Out.yes_ok ⟨by simp, d2⟩
        · obtain ⟨u1, u2⟩ := turn m (n % m) r (l - (n : Int) / (m : Int) * r) (by omega) hm2 (by omega) d2 t2
          unfold Out.whl
          rw [Out.bind_ok, if_pos (by simp; omega)]
          dsimp only
          rw [u1, Out.bind_ok]
          rw [Nat.gcd_comm m (n % m), Nat.gcd_rec (n % m) m, Nat.gcd_comm (m % (n % m)) (n % m)]
          have h3 := Nat.mod_lt m (show 0 < n % m by omega)
          refine ih _ _ _ _ _ ?_ (by omega) (by omega) (by omega) t2 u2
          have h4 := Nat.div_add_mod m (n % m)
          have h5 : 1 ≤ m / (n % m) := Nat.div_pos (by omega) (by omega)
          have h6 : n % m * 1 ≤ n % m * (m / (n % m)) := Nat.mul_le_mul_left _ h5
          rw [Nat.pow_succ] at hm
          omega
/-- the fewest times that a step is done: there is one below size, and no other -/
theorem times_uniq {m s g size t u : Int} (hm : 0 < m) (hg : m = g * size) (hgs : ∃ k, s = g * k) (hinv : ∃ w c : Int, (s / g) * w = 1 + size * c) (hg0 : 0 < g) (ht0 : 0 ≤ t) (ht : t < size) (hu0 : 0 ≤ u) (hu : u < size) (h : m ∣ t * s - u * s) : t = u := by
  obtain ⟨k, hk⟩ := hgs
  obtain ⟨w, c, hw⟩ := hinv
  have hdk : s / g = k := by rw [hk]; exact Int.mul_ediv_cancel_left _ (by omega)
  rw [hdk] at hw
  obtain ⟨q, hq⟩ := h
  have h1 : (t - u) * k = size * q := by
    have : g * ((t - u) * k) = g * (size * q) := by
      rw [← Int.mul_assoc g size q, ← hg, ← hq, hk, Int.mul_left_comm, Int.sub_mul]
    exact Int.eq_of_mul_eq_mul_left (by omega) this
  have h2 : size ∣ (t - u) := cancel_dvd ⟨w, c, hw⟩ ⟨q, h1⟩
  rcases Int.lt_trichotomy t u with z | z | z
  · exfalso
    have : size ∣ (u - t) := by rw [show u - t = -(t - u) by omega]; exact Int.dvd_neg.mpr h2
    exact small_dvd this (by omega) (by omega)
  · exact z
  · exact (small_dvd h2 (by omega) (by omega)).elim

/-! The order of data, in plain words. -/
section
variable {α β γ : Type} {en f : α → D} {g : β → D} {n : Nat}
theorem ltC_irrefl (a : α) : ltC en a a = false := (PyProof.Rows.listOrd PyProof.Rows.itemOrd).irrefl _
theorem ltC_trans {a b c : α} (h1 : ltC en a b = true) (h2 : ltC en b c = true) : ltC en a c = true := (PyProof.Rows.listOrd PyProof.Rows.itemOrd).trans _ _ _ h1 h2
theorem ltC_asymm {a b : α} (h : ltC en a b = true) : ltC en b a = false := by
  cases e : ltC en b a with
  | false => rfl
  | true => have := ltC_trans h e; rw [ltC_irrefl] at this; cases this
theorem leC_trans {a b c : α} (h1 : leC en a b = true) (h2 : leC en b c = true) : leC en a c = true := by
  unfold leC at *
  rw [Bool.not_eq_true'] at *
  cases e : ltC en c a with
  | false => rfl
  | true =>
    rcases (PyProof.Rows.listOrd PyProof.Rows.itemOrd).negTrans _ (PySem.W.keyToks (toP (en b))) _ e with z | z
    · have z : ltC en c b = true := z
      rw [h2] at z; cases z
    · have z : ltC en b a = true := z
      rw [h1] at z; cases z
theorem leC_total (a b : α) : (leC en a b || leC en b a) = true := by
  unfold leC
  cases e : ltC en b a with
  | false => rfl
  | true => rw [ltC_asymm e]; rfl
theorem dsort_perm (xs : List α) : (dsort en xs).Perm xs := List.mergeSort_perm _ _
theorem dsort_sorted (xs : List α) : (dsort en xs).Pairwise fun a b => leC en a b = true := List.pairwise_mergeSort (le := leC en) (fun _ _ _ h1 h2 => leC_trans h1 h2) leC_total xs
theorem ltC_int (a b : Int) : ltC eI a b = decide (a < b) := PySem.W.dataLt_int a b
theorem ltC_bool (a b : Bool) : ltC eB a b = (!a && b) := by
  show PySem.W.dataLt (.bool a) (.bool b) = _
  rw [PySem.W.dataLt_bool]; cases a <;> cases b <;> rfl
theorem ltC_str (a b : S) : ltC eZ a b = decide (a.1.cps.toList < b.1.cps.toList) := PySem.W.dataLt_str a.1 b.1
theorem eqv_iff (h : EqC en n) (a b : α) : PyData.eqv (toP (en a)) (toP (en b)) = true ↔ a = b := h.eq a b
theorem ltC_pair [DecidableEq α] [DecidableEq β] (hf : OrC f n) (hg : OrC g n) (a b : α × β) : ltC (eP f g) a b = if a.1 = b.1 then ltC g a.2 b.2 else ltC f a.1 b.1 := by
  show PySem.W.dataLt (.tuple [toP (f a.1), toP (g a.2)]) (.tuple [toP (f b.1), toP (g b.2)]) = _
  rw [PySem.W.dataLt_pair (hf.al _ _) (hg.al _ _)]
  by_cases e : a.1 = b.1
  · rw [if_pos ((eqv_iff hf.eqc _ _).mpr e), if_pos e]
    by_cases e2 : a.2 = b.2
    · rw [if_pos ((eqv_iff hg.eqc _ _).mpr e2), e2, ltC_irrefl]
    · rw [if_neg (fun z => e2 ((eqv_iff hg.eqc _ _).mp z))]; rfl
  · rw [if_neg (fun z => e ((eqv_iff hf.eqc _ _).mp z)), if_neg e]; rfl
theorem lexAll_nil (y : PyData) (ys : List PyData) : PyProof.Rows.lexLt PyProof.Rows.itemOrd (PySem.W.keyToksAll []) (PySem.W.keyToksAll (y :: ys)) = true := by
  unfold PySem.W.keyToksAll
  rw [PySem.W.lex_atom (by intro z; cases z)]; rfl
theorem lexAll_no (xs : List PyData) : PyProof.Rows.lexLt PyProof.Rows.itemOrd (PySem.W.keyToksAll xs) (PySem.W.keyToksAll []) = false := by
  cases xs with
  | nil => exact PyProof.Rows.lex_irrefl _
  | cons x xs =>
    unfold PySem.W.keyToksAll
    rw [PySem.W.lex_atom (by intro z; cases z)]; rfl
theorem ltC_lst_nil (b : α) (bs : List α) : ltC (eL f) [] (b :: bs) = true := by
  show PySem.W.dataLt (.list (toPs [])) (.list (toPs (f b :: bs.map f))) = true
  rw [PySem.W.dataLt_list]; exact lexAll_nil _ _
theorem ltC_lst_no (as : List α) : ltC (eL f) as [] = false := by
  show PySem.W.dataLt (.list (toPs (as.map f))) (.list (toPs [])) = false
  rw [PySem.W.dataLt_list]; exact lexAll_no _
theorem ltC_lst_cons [DecidableEq α] (hf : OrC f n) (a b : α) (as bs : List α) : ltC (eL f) (a :: as) (b :: bs) = if a = b then ltC (eL f) as bs else ltC f a b := by
  show PySem.W.dataLt (.list (toP (f a) :: toPs (as.map f))) (.list (toP (f b) :: toPs (bs.map f))) = _
  rw [PySem.W.dataLt_list, PySem.W.dataLt_cons (hf.al _ _)]
  by_cases e : a = b
  · rw [if_pos ((eqv_iff hf.eqc _ _).mpr e), if_pos e]
    show _ = PySem.W.dataLt (.list (toPs (as.map f))) (.list (toPs (bs.map f)))
    rw [PySem.W.dataLt_list]
  · rw [if_neg (fun z => e ((eqv_iff hf.eqc _ _).mp z)), if_neg e]; rfl
theorem ltC_tup_nil (b : α) (bs : List α) : ltC (eT f) [] (b :: bs) = true := by
  show PySem.W.dataLt (.tuple (toPs [])) (.tuple (toPs (f b :: bs.map f))) = true
  rw [PySem.W.dataLt_tuple]; exact lexAll_nil _ _
theorem ltC_tup_no (as : List α) : ltC (eT f) as [] = false := by
  show PySem.W.dataLt (.tuple (toPs (as.map f))) (.tuple (toPs [])) = false
  rw [PySem.W.dataLt_tuple]; exact lexAll_no _
theorem ltC_tup_cons [DecidableEq α] (hf : OrC f n) (a b : α) (as bs : List α) : ltC (eT f) (a :: as) (b :: bs) = if a = b then ltC (eT f) as bs else ltC f a b := by
  show PySem.W.dataLt (.tuple (toP (f a) :: toPs (as.map f))) (.tuple (toP (f b) :: toPs (bs.map f))) = _
  rw [PySem.W.dataLt_tuple, PySem.W.dataLt_cons (hf.al _ _)]
  by_cases e : a = b
  · rw [if_pos ((eqv_iff hf.eqc _ _).mpr e), if_pos e]
    show _ = PySem.W.dataLt (.tuple (toPs (as.map f))) (.tuple (toPs (bs.map f)))
    rw [PySem.W.dataLt_tuple]
  · rw [if_neg (fun z => e ((eqv_iff hf.eqc _ _).mp z)), if_neg e]; rfl
/-- the order of layings -/
theorem ltC_SI (a b : S × Int) : ltC (eP eZ eI) a b = RBS.lexS (gP a) (gP b) := by
  rw [ltC_pair orc_str orc_int, ltC_int, ltC_str]
  unfold RBS.lexS gP
  by_cases e : a.1 = b.1
  · rw [if_pos e, if_pos (by rw [e])]
  · rw [if_neg e, if_neg (fun z => e (Subtype.ext z))]
theorem leP_leC (a b : S × Int) : leP a b = leC (eP eZ eI) a b := by unfold leP leC; rw [ltC_SI]
theorem ltC_SI_total {a b : S × Int} (h : a ≠ b) : ltC (eP eZ eI) a b = true ∨ ltC (eP eZ eI) b a = true := by
  cases e1 : ltC (eP eZ eI) a b with
  | true => exact .inl rfl
  | false =>
    cases e2 : ltC (eP eZ eI) b a with
    | true => exact .inr rfl
    | false =>
      rw [ltC_SI] at e1 e2
      exact absurd (gP_inj (RBS.lexS_anti e2 e1)) h
theorem psort_lt {xs : List (S × Int)} (h : xs.Nodup) : (psort xs).Pairwise fun a b => ltC (eP eZ eI) a b = true := by
  have h1 := psort_sorted xs
  have h2 : (psort xs).Nodup := (psort_perm xs).nodup_iff.mpr h
  exact (h1.and h2).imp fun {a b} ⟨p, q⟩ => by
    rcases ltC_SI_total q with z | z
    · exact z
    · rw [leP_leC] at p
      unfold leC at p
      rw [z] at p; cases p
end

open Out (Rt)
theorem mem_uniq {ns : List Int} {k : Int} : k ∈ uniq ns ↔ k ∈ ns := by
  unfold uniq
  rw [mem_isort]
  show k ∈ keys (dmk _) ↔ _
  rw [mem_keys_dmk]
  unfold keys
  rw [List.map_map]
  simp
theorem uniq_lt (ns : List Int) : (uniq ns).Pairwise (· < ·) := isort_lt (dmk_nodup _)
theorem compS_none {α β : Type} {f : Unit → α → Out (Option β × Unit)} (xs : List α) (acc : List β) (h : ∀ x, x ∈ xs → f () x = .ok (none, ())) : Out.compS f xs acc () = .ok (acc, ()) := by
  rw [Out.compS_unit (o := fun _ => none) xs acc h]
  simp
section
variable {X : Cy} {a : Expr} {r : Env2} {G : GD} {pos p0 p1 p2 : Pos}
theorem we_sortU {Q : Res → Env2 → GD → Prop} (hcalm : X.calm = true) (hg : Gl X "sorted") (hm : X.mg "sorted" = none) (hg2 : Gl X "set") (hm2 : X.mg "set" = none)
    (h : WE X a r G fun x r1 G1 => ∃ ns : List Int, VwR r1 G1 x (.lst (ns.map D.int)) ∧ ns.length ≤ 1000 ∧ Q (.fr (.lst ((uniq ns).map D.int))) r1 G1)
    (he : starEach [.Call (.Name "set" p1) [a] [] p2] X.env = (false, eval (.Call (.Name "set" p1) [a] [] p2) X.env) :: starEach [] X.env := by rfl) (hpl : (backTo pos (starEach [] X.env)).any (·.1) = false := by rfl)
    (he2 : starEach [a] X.env = (false, eval a X.env) :: starEach [] X.env := by rfl) (hpl2 : (backTo p2 (starEach [] X.env)).any (·.1) = false := by rfl) :
    WE X (.Call (.Name "sorted" p0) [.Call (.Name "set" p1) [a] [] p2] [] pos) r G Q :=
  we_sortSet hcalm hg hm hg2 hm2 (h.mono fun x r1 G1 ⟨ns, q1, q2, q3⟩ => ⟨ns, q1, q2, fun out h1 h2 => by
    rw [sorted_ext h1 (uniq_lt ns) fun k => by rw [h2, mem_uniq]]
    exact q3⟩) he hpl he2 hpl2
end

open Out (Rt)
def topS (i : Nat) : Stmt := PySem.Challenge.pw_rulerbits_k08_whole_side_by_side.main.body.getD i (.Pass ⟨0, 0, 0, 0⟩)
abbrev s_is_number : Stmt := topS 18
theorem sc_is_number : FnScope ["value", "lowest", "highest"] ["value", "lowest", "highest"] (defScope s_is_number) := ⟨rfl, rfl, rfl, by decide +kernel, rfl, by decide +kernel, by decide +kernel⟩
-- slots: 0 value, 1 lowest, 2 highest
abbrev s_spread_of : Stmt := topS 19
theorem sc_spread_of : FnScope ["marks", "found", "place", "mark", "other"] ["marks"] (defScope s_spread_of) := ⟨rfl, rfl, rfl, by decide +kernel, rfl, by decide +kernel, by decide +kernel⟩
-- slots: 0 marks, 1 found, 2 place, 3 mark, 4 other
abbrev s_Ruler_init : Stmt := inClass (topS 20) 1
theorem sc_Ruler_init : FnScope ["self", "marks", "error", "index", "mark", "lowest"] ["self", "marks", "error"] (defScope s_Ruler_init) := ⟨rfl, rfl, rfl, by decide +kernel, rfl, by decide +kernel, by decide +kernel⟩
-- slots: 0 self, 1 marks, 2 error, 3 index, 4 mark, 5 lowest
abbrev s_Ruler_marks : Stmt := inClass (topS 20) 2
theorem sc_Ruler_marks : FnScope ["self"] ["self"] (defScope s_Ruler_marks) := ⟨rfl, rfl, rfl, by decide +kernel, rfl, by decide +kernel, by decide +kernel⟩
-- slots: 0 self
abbrev s_Ruler_error : Stmt := inClass (topS 20) 3
theorem sc_Ruler_error : FnScope ["self"] ["self"] (defScope s_Ruler_error) := ⟨rfl, rfl, rfl, by decide +kernel, rfl, by decide +kernel, by decide +kernel⟩
-- slots: 0 self
abbrev s_Ruler_length : Stmt := inClass (topS 20) 4
theorem sc_Ruler_length : FnScope ["self"] ["self"] (defScope s_Ruler_length) := ⟨rfl, rfl, rfl, by decide +kernel, rfl, by decide +kernel, by decide +kernel⟩
-- slots: 0 self
abbrev s_Ruler_len : Stmt := inClass (topS 20) 7
theorem sc_Ruler_len : FnScope ["self"] ["self"] (defScope s_Ruler_len) := ⟨rfl, rfl, rfl, by decide +kernel, rfl, by decide +kernel, by decide +kernel⟩
-- slots: 0 self
abbrev s_Ruler_eq : Stmt := inClass (topS 20) 8
theorem sc_Ruler_eq : FnScope ["self", "other"] ["self", "other"] (defScope s_Ruler_eq) := ⟨rfl, rfl, rfl, by decide +kernel, rfl, by decide +kernel, by decide +kernel⟩
-- slots: 0 self, 1 other
abbrev s_spans_at : Stmt := topS 23
theorem sc_spans_at : FnScope ["one", "other", "shift", "marks", "span", "mark"] ["one", "other", "shift"] (defScope s_spans_at) := ⟨rfl, rfl, rfl, by decide +kernel, rfl, by decide +kernel, by decide +kernel⟩
-- slots: 0 one, 1 other, 2 shift, 3 marks, 4 span, 5 mark
abbrev s_joint_spans : Stmt := topS 24
theorem sc_joint_spans : FnScope ["one", "other", "shift"] ["one", "other", "shift"] (defScope s_joint_spans) := ⟨rfl, rfl, rfl, by decide +kernel, rfl, by decide +kernel, by decide +kernel⟩
-- slots: 0 one, 1 other, 2 shift
abbrev s_best_shift : Stmt := topS 25
theorem sc_best_shift : FnScope ["one", "other", "lowest", "highest", "counts", "shift"] ["one", "other", "lowest", "highest"] (defScope s_best_shift) := ⟨rfl, rfl, rfl, by decide +kernel, rfl, by decide +kernel, by decide +kernel⟩
-- slots: 0 one, 1 other, 2 lowest, 3 highest, 4 counts, 5 shift
abbrev s_law_begun : Stmt := topS 27
theorem sc_law_begun : FnScope ["_law_script", "_law_stirred", "_law_cell"] ["_law_script"] (defScope s_law_begun) := ⟨rfl, rfl, rfl, by decide +kernel, rfl, by decide +kernel, by decide +kernel⟩
-- slots: 0 _law_script, 1 _law_stirred, 2 _law_cell
abbrev s_law_take : Stmt := topS 28
theorem sc_law_take : FnScope ["_law_box", "_law_many", "_law_figure"] ["_law_box", "_law_many"] (defScope s_law_take) := ⟨rfl, rfl, rfl, by decide +kernel, rfl, by decide +kernel, by decide +kernel⟩
-- slots: 0 _law_box, 1 _law_many, 2 _law_figure
abbrev s_law_alike : Stmt := topS 29
theorem sc_law_alike : FnScope ["_law_found", "_law_due", "_law_k"] ["_law_found", "_law_due"] (defScope s_law_alike) := ⟨rfl, rfl, rfl, by decide +kernel, rfl, by decide +kernel, by decide +kernel⟩
-- slots: 0 _law_found, 1 _law_due, 2 _law_k
abbrev s_law_marks : Stmt := topS 30
theorem sc_law_marks : FnScope ["_law_box", "_law_most", "_law_length", "_law_left", "_law_found", "_law_turn"] ["_law_box", "_law_most", "_law_length"] (defScope s_law_marks) := ⟨rfl, rfl, rfl, by decide +kernel, rfl, by decide +kernel, by decide +kernel⟩
-- slots: 0 _law_box, 1 _law_most, 2 _law_length, 3 _law_left, 4 _law_found, 5 _law_turn
abbrev s_law_ruler : Stmt := topS 31
theorem sc_law_ruler : FnScope ["_law_box", "_law_most", "_law_length"] ["_law_box", "_law_most", "_law_length"] (defScope s_law_ruler) := ⟨rfl, rfl, rfl, by decide +kernel, rfl, by decide +kernel, by decide +kernel⟩
-- slots: 0 _law_box, 1 _law_most, 2 _law_length
abbrev s_law_different : Stmt := topS 32
theorem sc_law_different : FnScope ["_law_values", "_law_value"] ["_law_values"] (defScope s_law_different) := ⟨rfl, rfl, rfl, by decide +kernel, rfl, by decide +kernel, by decide +kernel⟩
-- slots: 0 _law_values, 1 _law_value
abbrev s_law_error : Stmt := topS 33
theorem sc_law_error : FnScope ["_law_work", "error", "_law_kinds", "_law_names", "_law_name"] ["_law_work"] (defScope s_law_error) := ⟨rfl, rfl, rfl, by decide +kernel, rfl, by decide +kernel, by decide +kernel⟩
-- slots: 0 _law_work, 1 error, 2 _law_kinds, 3 _law_names, 4 _law_name
abbrev s_law_joint : Stmt := topS 34
theorem sc_law_joint : FnScope ["_law_one", "_law_other", "_law_shift", "_law_marks_here", "_law_found", "_law_mark", "_law_more"] ["_law_one", "_law_other", "_law_shift"] (defScope s_law_joint) := ⟨rfl, rfl, rfl, by decide +kernel, rfl, by decide +kernel, by decide +kernel⟩
-- slots: 0 _law_one, 1 _law_other, 2 _law_shift, 3 _law_marks_here, 4 _law_found, 5 _law_mark, 6 _law_more
abbrev s_law : Stmt := topS 35
theorem sc_law : FnScope ["_law_script", "_law_box", "_law_one", "_law_other", "_law_turn", "_law_shift", "_law_lowest", "_law_highest", "_law_counts", "_law_pair", "_law_wrong"] ["_law_script"] (defScope s_law) := ⟨rfl, rfl, rfl, by decide +kernel, rfl, by decide +kernel, by decide +kernel⟩
-- slots: 0 _law_script, 1 _law_box, 2 _law_one, 3 _law_other, 4 _law_turn, 5 _law_shift, 6 _law_lowest, 7 _law_highest, 8 _law_counts, 9 _law_pair, 10 _law_wrong

abbrev z_InvalidDistances : S := ⟨"InvalidDistances", by decide +kernel⟩
abbrev z_InvalidEnd : S := ⟨"InvalidEnd", by decide +kernel⟩
abbrev z_InvalidGaps : S := ⟨"InvalidGaps", by decide +kernel⟩
abbrev z_InvalidNumber : S := ⟨"InvalidNumber", by decide +kernel⟩
abbrev z_InvalidPiece : S := ⟨"InvalidPiece", by decide +kernel⟩
abbrev z_InvalidPlace : S := ⟨"InvalidPlace", by decide +kernel⟩
abbrev z_InvalidRack : S := ⟨"InvalidRack", by decide +kernel⟩
abbrev z_InvalidRuler : S := ⟨"InvalidRuler", by decide +kernel⟩
abbrev z_TooMany : S := ⟨"TooMany", by decide +kernel⟩
abbrev z_UnknownName : S := ⟨"UnknownName", by decide +kernel⟩
abbrev z_other : S := ⟨"other", by decide +kernel⟩
abbrev z_ : S := ⟨"", by decide +kernel⟩
def m_law_take (m : Int) (bx : Bx) : Out (Int × Bx) :=
  (Out.guard (0 < m ∧ m < 2 ^ 400)).bind fun _ => match bx.1 with
    | [] => .ok ((bx.2 * 48271 % 2147483647 / 7) % m, ([], bx.2 * 48271 % 2147483647))
    | n :: rs => .ok (n % m, (if n / m = 0 ∨ n / m = -1 then rs else n / m :: rs, bx.2))
def stirB (ns : List Int) : Int := ns.foldl (fun s n => (s * 48271 + n * 69621 + 11) % 2147483647) 0
def m_law_begun (ns : List Int) : Bx := (ns, stirB ns * (if decide (2 < ((ns.length : Nat) : Int)) = true then 1 else 0))
def m_is_number (value1 : Int) (lowest2 : Int) (highest3 : Int) : Bool := (true && ((!false) && ((decide (lowest2 ≤ value1)) && (decide (value1 ≤ highest3)))))
def m_is_number_n (value1 : IB) (lowest2 : Int) (highest3 : Int) : Bool := (match value1 with | .i value1 => ((true && ((!false) && ((decide (lowest2 ≤ value1)) && (decide (value1 ≤ highest3)))))) | .b value1 => ((true && ((!true) && false))))
def mk_Ruler (marks1 : List Int) (error2 : Int) : Out (Rul) :=
(Out.fold (σ := Unit) (fun s3 (x5 : (Int × Int)) =>
(if (decide (x5.1 = (0 : Int))) = true then (Out.ok (0 : Int)) else ((Out.get (pix marks1 (x5.1 - (1 : Int)))).bind fun x8 =>
Out.ok (x8 + (1 : Int)))).bind fun i7 =>
if ((decide (x5.1 = (12 : Int))) || (!(m_is_number x5.2 i7 (if (decide (x5.1 = (0 : Int))) = true then (0 : Int) else (300 : Int))))) = true then (
Out.no)
else (
Out.ok ())) (penum marks1) ()).bind fun s4 =>
if (decide (((marks1).length : Int) < (2 : Int))) = true then (
Out.no)
else (
if (!(m_is_number error2 (0 : Int) (9 : Int))) = true then (
Out.no)
else (
Out.ok ⟨error2, marks1⟩))
def m_Ruler_marks (self1 : Rul) : List Int := self1.marks
def m_Ruler_error (self1 : Rul) : Int := self1.error
def m_Ruler_length (self1 : Rul) : Out (Int) :=
(Out.get (pix self1.marks (-(1 : Int)))).bind fun x2 =>
Out.ok x2
def m_Ruler___len (self1 : Rul) : Int := ((self1.marks).length : Int)
def m_Ruler___eq (self1 : Rul) (other2 : Rul) : Bool := (true && ((decide (self1.marks = (m_Ruler_marks other2))) && (decide (self1.error = m_Ruler_error other2))))
def m_spread_of (marks1 : List Int) : Out (List Int) :=
(Out.ok ([] : List Int)).bind fun found2 =>
(Out.fold (σ := List Int) (fun s3 (x5 : (Int × Int)) =>
(Out.guard ((s3).length + ((pcut marks1 (some (x5.1 + (1 : Int))) none).map (fun (x8 : Int) => x8 - x5.2)).length ≤ LIM)).bind fun _ =>
(Out.ok (s3 ++ ((pcut marks1 (some (x5.1 + (1 : Int))) none).map (fun (x8 : Int) => x8 - x5.2)))).bind fun found11 =>
Out.ok found11) (penum marks1) found2).bind fun s4 =>
Out.ok (isort s4)
def m_spread_of_l (marks1 : List Int) : Out (List Int) :=
(Out.ok ([] : List Int)).bind fun found2 =>
(Out.fold (σ := List Int) (fun s3 (x5 : (Int × Int)) =>
(Out.guard ((s3).length + ((pcut marks1 (some (x5.1 + (1 : Int))) none).map (fun (x8 : Int) => x8 - x5.2)).length ≤ LIM)).bind fun _ =>
(Out.ok (s3 ++ ((pcut marks1 (some (x5.1 + (1 : Int))) none).map (fun (x8 : Int) => x8 - x5.2)))).bind fun found11 =>
Out.ok found11) (penum marks1) found2).bind fun s4 =>
Out.ok (isort s4)
def m_spans_at (one1 : Rul) (other2 : Rul) (shift3 : Int) : Out (List Int) :=
(Out.guard ((dmk ((m_Ruler_marks one1).map (fun (x4 : Int) => (x4, true)))).length ≤ LIM2)).bind fun _ =>
(Out.guard ((dmk ((m_Ruler_marks other2).map (fun (x8 : Int) => (x8 + shift3, true)))).length ≤ LIM2)).bind fun _ =>
(Out.ok (isort ((dmk ((dmk ((m_Ruler_marks one1).map (fun (x4 : Int) => (x4, true)))) ++ (dmk ((m_Ruler_marks other2).map (fun (x8 : Int) => (x8 + shift3, true)))))).map (·.1)))).bind fun marks12 =>
(m_spread_of_l marks12).bind fun r14 =>
Out.ok (isort ((dmk (r14.map (fun (x13 : Int) => (x13, true)))).map (·.1)))
def m_joint_spans (one1 : Rul) (other2 : Rul) (shift3 : Int) : Out (List Int) :=
if (!(m_is_number shift3 ((0 : Int) - (300 : Int)) (300 : Int))) = true then (
Out.ex ⟨6, []⟩)
else (
(m_spans_at one1 other2 shift3).bind fun r5 =>
Out.ok r5)
def m_best_shift (one1 : Rul) (other2 : Rul) (lowest3 : Int) (highest4 : Int) : Out (Int) :=
if ((!(m_is_number lowest3 ((0 : Int) - (300 : Int)) (300 : Int))) || (!(m_is_number highest4 lowest3 (300 : Int)))) = true then (
Out.ex ⟨6, []⟩)
else (
(Out.guard (RG lowest3)).bind fun _ =>
(Out.guard (RG (highest4 + (1 : Int)))).bind fun _ =>
(Out.guard ((rgI lowest3 (highest4 + (1 : Int))).length ≤ LIM)).bind fun _ =>
(Out.compS (fun (s11 : Unit) (x7 : Int) =>
((m_spans_at one1 other2 x7).nox).bind fun r13 =>
Out.ok (some ((r13).length : Int), ())) (rgI lowest3 (highest4 + (1 : Int))) [] ()).bind fun l12 =>
(Out.get (maxI l12.1)).bind fun x14 =>
(Out.get (idxI x14 l12.1)).bind fun x15 =>
Out.ok (lowest3 + (x15 : Int)))
def m_best_shift_n (one1 : Rul) (other2 : Rul) (lowest3 : IB) (highest4 : IB) : Out (Int) :=
(if (!(m_is_number_n lowest3 ((0 : Int) - (300 : Int)) (300 : Int))) = true then Out.ok true else ((Out.get (lowest3.int?)).bind fun n7 =>
Out.ok (!(m_is_number_n highest4 n7 (300 : Int))))).bind fun c5 =>
if c5 = true then (
Out.ex ⟨6, []⟩)
else (
(Out.get (lowest3.int?)).bind fun n10 =>
(Out.get (highest4.int?)).bind fun n11 =>
(Out.guard (RG n10)).bind fun _ =>
(Out.guard (RG (n11 + (1 : Int)))).bind fun _ =>
(Out.guard ((rgI n10 (n11 + (1 : Int))).length ≤ LIM)).bind fun _ =>
(Out.compS (fun (s15 : Unit) (x9 : Int) =>
((m_spans_at one1 other2 x9).nox).bind fun r17 =>
Out.ok (some ((r17).length : Int), ())) (rgI n10 (n11 + (1 : Int))) [] ()).bind fun l16 =>
(Out.get (lowest3.int?)).bind fun n18 =>
(Out.get (maxI l16.1)).bind fun x19 =>
(Out.get (idxI x19 l16.1)).bind fun x20 =>
Out.ok (n18 + (x20 : Int)))
def m_joint_spans_n (one1 : Rul) (other2 : Rul) (shift3 : IB) : Out (List Int) :=
if (!(m_is_number_n shift3 ((0 : Int) - (300 : Int)) (300 : Int))) = true then (
Out.ex ⟨6, []⟩)
else (
(Out.get (shift3.int?)).bind fun n5 =>
(m_spans_at one1 other2 n5).bind fun r6 =>
Out.ok r6)
def m_law_marks (most1 : Int) (length2 : Int) (bx : Bx) : Out (List Int × Bx) :=
(Out.guard (RgOk (1 : Int) (length2 + (1 : Int)))).bind fun _ =>
(Out.ok (rgI (1 : Int) (length2 + (1 : Int)))).bind fun left4 =>
(Out.ok [(0 : Int)]).bind fun found5 =>
(m_law_take (most1 - (1 : Int)) bx).bind fun r9 =>
(Out.guard (RG ((1 : Int) + r9.1))).bind fun _ =>
(Out.fold (σ := (List Int) × (List Int) × Bx) (fun s6 (x8 : Int) =>
(if (!decide (s6.2.1 = ([] : List Int))) = true then (
(m_law_take ((s6.2.1).length : Int) s6.2.2).bind fun r14 =>
(Out.guard (0 ≤ r14.1)).bind fun _ =>
(Out.get (s6.2.1[(r14.1).toNat]?)).bind fun x16 =>
(Out.guard ((s6.2.1).length ≤ LIM)).bind fun _ =>
(Out.guard ((s6.1).length < LIM)).bind fun _ =>
(Out.ok (s6.1 ++ [x16])).bind fun found19 =>
(Out.ok (s6.2.1.eraseIdx (r14.1).toNat)).bind fun left20 =>
Out.ok (found19, left20, r14.2))
else (
Out.ok (s6.1, s6.2.1, s6.2.2)) : Out ((List Int) × (List Int) × Bx)).bind fun s11 =>
Out.ok (s11.1, s11.2.1, s11.2.2)) (rgI 0 ((1 : Int) + r9.1)) (found5, left4, r9.2)).bind fun s7 =>
Out.ok (isort s7.1, s7.2.2)
def m_law_ruler (most1 : Int) (length2 : Int) (bx : Bx) : Out (Rul × Bx) :=
(m_law_marks most1 length2 bx).bind fun r3 =>
(m_law_take (4 : Int) r3.2).bind fun r4 =>
(mk_Ruler r3.1 r4.1).bind fun r5 =>
Out.ok (r5, r4.2)
def m_law_different (values1 : List Int) : List Int := (isort ((dmk (values1.map (fun (x2 : Int) => (x2, true)))).map (·.1)))
def m_law_joint (one1 : Rul) (other2 : Rul) (shift3 : Int) : Out (List Int) :=
(Out.guard ((m_Ruler_marks one1).length + ((m_Ruler_marks other2).map (fun (x5 : Int) => x5 + shift3)).length ≤ LIM)).bind fun _ =>
(Out.ok ((m_Ruler_marks one1) ++ ((m_Ruler_marks other2).map (fun (x5 : Int) => x5 + shift3)))).bind fun marks_here9 =>
(Out.ok ([] : List Int)).bind fun found10 =>
(Out.fold (σ := List Int) (fun s11 (x13 : Int) =>
(Out.guard ((s11).length + ((marks_here9.filter (fun (x16 : Int) => !decide (x16 = x13))).map (fun (x16 : Int) => if (x13 - x16) < 0 then -(x13 - x16) else (x13 - x16))).length ≤ LIM)).bind fun _ =>
(Out.ok (s11 ++ ((marks_here9.filter (fun (x16 : Int) => !decide (x16 = x13))).map (fun (x16 : Int) => if (x13 - x16) < 0 then -(x13 - x16) else (x13 - x16))))).bind fun found19 =>
Out.ok found19) marks_here9 found10).bind fun s12 =>
Out.ok (m_law_different s12)
def hs_law_error_InvalidNumber : Out Er :=
(Out.ok [false, false, false]).bind fun kinds1 =>
(Out.guard ((kinds1).length + ([true, false]).length ≤ LIM)).bind fun _ =>
(Out.ok (kinds1 ++ [true, false])).bind fun kinds3 =>
(Out.guard ((kinds3).length + ([false, false]).length ≤ LIM)).bind fun _ =>
(Out.ok (kinds3 ++ [false, false])).bind fun kinds5 =>
(Out.guard ((kinds5).length + ([false, false, false]).length ≤ LIM)).bind fun _ =>
(Out.ok (kinds5 ++ [false, false, false])).bind fun kinds7 =>
(Out.ok [z_InvalidDistances, z_InvalidEnd, z_InvalidGaps, z_InvalidNumber, z_InvalidPiece, z_InvalidPlace]).bind fun names8 =>
(Out.guard ((names8).length + ([z_InvalidRack, z_InvalidRuler, z_TooMany, z_UnknownName]).length ≤ LIM)).bind fun _ =>
(Out.ok (names8 ++ [z_InvalidRack, z_InvalidRuler, z_TooMany, z_UnknownName])).bind fun names10 =>
if ((!decide (((kinds7).count true : Int) = (1 : Int))) || (!true)) = true then (
Out.ok (Er.s z_other))
else (
(Out.get (idxB true kinds7)).bind fun x11 =>
(Out.get (pix names10 (x11 : Int))).bind fun x12 =>
if (memB x12 [z_InvalidDistances, z_InvalidGaps, z_InvalidPiece]) = true then (
Out.no)
else (
if (decide (x12 = z_InvalidRack)) = true then (
Out.no)
else (
(if (decide (x12 = z_InvalidRuler)) = true then (Out.no) else (Out.ok (Er.s x12))).bind fun i13 =>
Out.ok i13)))
theorem hs_law_error_InvalidNumber_eq : hs_law_error_InvalidNumber = .ok (Er.s z_InvalidNumber) := by
  unfold hs_law_error_InvalidNumber
  simp (config := {decide := true}) [Out.guard_pos]
  try rfl
def hd_law_error (x : Xm) : Option Er :=
if x.n = 6 then some (Er.s z_InvalidNumber) else none
def m_law (script1 : List Int) : Out (Bool) :=
(m_law_ruler (6 : Int) (40 : Int) (m_law_begun script1)).bind fun r2 =>
(m_law_take (2 : Int) r2.2).bind fun r3 =>
(Out.get (pix [(10 : Int), (300 : Int)] r3.1)).bind fun x4 =>
(m_law_ruler (6 : Int) x4 r3.2).bind fun r5 =>
(Out.ok r2.1).bind fun one6 =>
(Out.ok r5.1).bind fun other7 =>
(Out.loop (σ := Bx) (ρ := (Bool × Bx)) (fun s8 (x10 : Int) =>
(m_law_take (601 : Int) s8).bind fun r11 =>
(m_law_take (41 : Int) r11.2).bind fun r12 =>
(m_law_take (2 : Int) r12.2).bind fun r13 =>
(Out.get (pix [r11.1 - (300 : Int), r12.1 - (20 : Int)] r13.1)).bind fun x14 =>
(m_joint_spans one6 other7 x14).bind fun r15 =>
(m_law_joint one6 other7 x14).bind fun r16 =>
(Out.guard (r15 = r16 ∧ alB 1 ((eL eI) r15) = true)).bind fun _ =>
if (!true) = true then (
Out.ok (.rt (false, r13.2)))
else (
Out.ok (.nx r13.2))) (rgI 0 (4 : Int)) r5.2).bind fun t => match t with
| .nx s9 => (
(m_law_take (60 : Int) s9).bind fun r18 =>
(Out.ok (r18.1 - (30 : Int))).bind fun lowest19 =>
(m_law_take (30 : Int) r18.2).bind fun r20 =>
(Out.ok (lowest19 + r20.1)).bind fun highest21 =>
(Out.guard (RG lowest19)).bind fun _ =>
(Out.guard (RG (highest21 + (1 : Int)))).bind fun _ =>
(Out.guard ((rgI lowest19 (highest21 + (1 : Int))).length ≤ LIM)).bind fun _ =>
(Out.compS (fun (s26 : Unit) (x22 : Int) =>
((m_law_joint one6 other7 x22).nox).bind fun r28 =>
Out.ok (some ((r28).length : Int), ())) (rgI lowest19 (highest21 + (1 : Int))) [] ()).bind fun l27 =>
(m_best_shift one6 other7 lowest19 highest21).bind fun r29 =>
(Out.get (maxI l27.1)).bind fun x30 =>
(Out.get (idxI x30 l27.1)).bind fun x31 =>
(Out.guard (r29 = (lowest19 + (x31 : Int)) ∧ alB 0 (eI r29) = true)).bind fun _ =>
if (!true) = true then (
Out.ok false)
else (
(Out.loop (σ := Unit) (ρ := (Bool × Bx)) (fun s33 (x35 : (IB × Int)) =>
(Out.caught (Er.s z_) hd_law_error ((m_best_shift_n one6 other7 x35.1 (IB.i x35.2)).bind fun r38 =>
Out.ok r38 : Out (Int))).bind fun e37 =>
if (!decide (e37 = (Er.s z_InvalidNumber))) = true then (
Out.ok (.rt (false, r20.2)))
else (
Out.ok (.nx ()))) [(IB.i (((3 : Int), (2 : Int)).1), ((3 : Int), (2 : Int)).2), (IB.i ((-(301 : Int), (0 : Int)).1), (-(301 : Int), (0 : Int)).2), (IB.i (((0 : Int), (301 : Int)).1), ((0 : Int), (301 : Int)).2), (IB.b ((true, (3 : Int)).1), (true, (3 : Int)).2)] ()).bind fun t => match t with
| .nx s34 => (
(Out.loop (σ := Unit) (ρ := (Bool × Bx)) (fun s39 (x41 : IB) =>
(Out.caught (Er.s z_) hd_law_error ((m_joint_spans_n one6 other7 x41).bind fun r44 =>
Out.ok r44 : Out (List Int))).bind fun e43 =>
if (!decide (e43 = (Er.s z_InvalidNumber))) = true then (
Out.ok (.rt (false, r20.2)))
else (
Out.ok (.nx ()))) [IB.i (-(301 : Int)), IB.i (301 : Int), IB.b false] ()).bind fun t => match t with
| .nx s40 => (
(m_best_shift one6 other7 (300 : Int) (300 : Int)).bind fun r45 =>
(if (decide (r45 = (300 : Int))) = true then ((m_best_shift one6 other7 (-(300 : Int)) (-(300 : Int))).bind fun r47 =>
Out.ok (decide (r47 = -(300 : Int)))) else Out.ok false).bind fun c46 =>
Out.ok c46)
| .rt v => Out.ok v.1)
| .rt v => Out.ok v.1))
| .rt v => Out.ok v.1
/-! ### draws -/
theorem take_yes {m : Int} (h0 : 0 < m) (h1 : m < 1073741824) (bx : Bx) : (m_law_take m bx).yes fun r => 0 ≤ r.1 ∧ r.1 < m := by
  unfold m_law_take
  refine Out.yes_guard ⟨h0, Int.lt_of_lt_of_le h1 (by decide)⟩ ?_
  split
  · exact Out.yes_ok ⟨Int.emod_nonneg _ (by omega), Int.emod_lt_of_pos _ h0⟩
  · exact Out.yes_ok ⟨Int.emod_nonneg _ (by omega), Int.emod_lt_of_pos _ h0⟩
theorem take_yesW {m : Int} (h0 : 0 < m) (h1 : m < 2 ^ 400) (bx : Bx) : (m_law_take m bx).yes fun r => 0 ≤ r.1 ∧ r.1 < m := by
  unfold m_law_take
  refine Out.yes_guard ⟨h0, h1⟩ ?_
  split
  · exact Out.yes_ok ⟨Int.emod_nonneg _ (by omega), Int.emod_lt_of_pos _ h0⟩
  · exact Out.yes_ok ⟨Int.emod_nonneg _ (by omega), Int.emod_lt_of_pos _ h0⟩
/-! ### rulers -/
structure RulOk (r : Rul) : Prop where
  lt : r.marks.Pairwise (· < ·)
  hd : r.marks[0]? = some 0
  lo : 2 ≤ r.marks.length
  hi : r.marks.length ≤ 12
  le : ∀ m, m ∈ r.marks → m ≤ 300
  e0 : 0 ≤ r.error
  e9 : r.error ≤ 9
theorem isnum_iff {v a b : Int} : m_is_number v a b = true ↔ a ≤ v ∧ v ≤ b := by unfold m_is_number; simp
theorem isnum_t {v a b : Int} (h1 : a ≤ v) (h2 : v ≤ b) : m_is_number v a b = true := isnum_iff.mpr ⟨h1, h2⟩
theorem pairwise_get {xs : List Int} (h : xs.Pairwise (· < ·)) {i j : Nat} {x y : Int} (hx : xs[i]? = some x) (hy : xs[j]? = some y) (hij : i < j) : x < y := by
  obtain ⟨h1, rfl⟩ := List.getElem?_eq_some_iff.mp hx
  obtain ⟨h2, rfl⟩ := List.getElem?_eq_some_iff.mp hy
  exact List.pairwise_iff_getElem.mp h i j h1 h2 hij
theorem RulOk.nn {r : Rul} (h : RulOk r) {m : Int} (hm : m ∈ r.marks) : 0 ≤ m := by
  obtain ⟨i, hi, rfl⟩ := List.getElem_of_mem hm
  rcases Nat.eq_zero_or_pos i with z | z
  · subst z
    have := h.hd
    rw [List.getElem?_eq_getElem hi] at this
    have := Option.some.inj this
    omega
  · have := pairwise_get h.lt h.hd (List.getElem?_eq_getElem hi) z
    omega
theorem mk_Ruler_ok {ms : List Int} {e : Int} (h : RulOk ⟨e, ms⟩) : mk_Ruler ms e = .ok ⟨e, ms⟩ := by
  apply Out.yes.eq
  unfold mk_Ruler
  have hlo := h.lo
  have hhi := h.hi
  have he0 := h.e0
  have he9 := h.e9
  dsimp only at hlo hhi he0 he9
  refine Out.yes_bind (R := fun _ => True) (Out.fold_yes (fun _ _ => True) _ _ trivial fun pre x post s hp _ => ?_) fun _ _ => ?_
  · obtain ⟨i, hi, h1, h2, _⟩ := penum_split hp
    have hlt := (List.getElem?_eq_some_iff.mp h2).1
    rcases Nat.eq_zero_or_pos i with z | z
    · subst z
      have hx0 : x.2 = 0 := by have := h.hd; dsimp only at this; rw [h2] at this; exact Option.some.inj this
      rw [if_pos (by rw [h1]; simp), Out.bind_ok]
      refine Out.yes_ifF ?_ (Out.yes_ok trivial)
      rw [h1, hx0]; rfl
    · rw [if_neg (by rw [h1]; simp; omega)]
      have hprev : ms[i - 1]? = some (ms[i - 1]'(by omega)) := List.getElem?_eq_getElem (by omega)
      rw [Out.bind_get (a := ms[i - 1]'(by omega)) (by rw [h1, show ((i : Nat) : Int) - 1 = ((i - 1 : Nat) : Int) by omega]; exact pix_nat hprev), Out.bind_ok]
      refine Out.yes_ifF ?_ (Out.yes_ok trivial)
      have hl := pairwise_get h.lt hprev h2 (by omega)
      have h3 := h.le x.2 (List.mem_of_getElem? h2)
      rw [if_neg (by rw [h1]; simp; omega), isnum_t (by omega) h3]
      simp; omega
  · refine Out.yes_ifF (by simp; omega) (Out.yes_ifF ?_ (Out.yes_ok rfl))
    rw [isnum_t he0 he9]; rfl
/-- all distances of two marks -/
def spreadL : List Int → List Int
  | [] => []
  | m :: ms => ms.map (fun x => x - m) ++ spreadL ms
theorem spreadL_len : ∀ ms : List Int, (spreadL ms).length ≤ ms.length * ms.length
  | [] => by simp [spreadL]
  | m :: ms => by
    have := spreadL_len ms
    unfold spreadL
    rw [List.length_append, List.length_map, List.length_cons]
    have e : (ms.length + 1) * (ms.length + 1) = ms.length * ms.length + 2 * ms.length + 1 := by
      rw [Nat.add_mul, Nat.mul_add]; omega
    omega
theorem mem_spreadL {ms : List Int} {d : Int} : d ∈ spreadL ms ↔ ∃ (i j : Nat) (x y : Int), i < j ∧ ms[i]? = some x ∧ ms[j]? = some y ∧ d = y - x := by
  induction ms with
  | nil => unfold spreadL; simp
  | cons m ms ih =>
    unfold spreadL
    rw [List.mem_append, List.mem_map, ih]
    constructor
    · rintro (⟨y, hy, rfl⟩ | ⟨i, j, x, y, h1, h2, h3, h4⟩)
      · obtain ⟨j, hj⟩ := List.getElem?_of_mem hy
        exact ⟨0, j + 1, m, y, by omega, by simp, by simpa using hj, rfl⟩
      · exact ⟨i + 1, j + 1, x, y, by omega, by simpa using h2, by simpa using h3, h4⟩
    · rintro ⟨i, j, x, y, h1, h2, h3, h4⟩
      cases j with
      | zero => omega
      | succ j =>
        rw [List.getElem?_cons_succ] at h3
        cases i with
        | zero =>
          rw [List.getElem?_cons_zero] at h2
          cases h2
          exact .inl ⟨y, List.mem_of_getElem? h3, h4.symm⟩
        | succ i =>
          rw [List.getElem?_cons_succ] at h2
          exact .inr ⟨i, j, x, y, by omega, h2, h3, h4⟩
theorem spread_ok {ms : List Int} (hl : ms.length ≤ 1000) : m_spread_of ms = .ok (isort (spreadL ms)) := by
  unfold m_spread_of
  rw [Out.bind_ok]
  have key : ∀ (xs pre : List Int) (s : List Int), ms = pre ++ xs → s.length + (spreadL xs).length ≤ 1000000 → Out.fold (σ := List Int) (fun s3 (x5 : (Int × Int)) =>
      (Out.guard ((s3).length + ((pcut ms (some (x5.1 + (1 : Int))) none).map (fun (x8 : Int) => x8 - x5.2)).length ≤ LIM)).bind fun _ =>
      (Out.ok (s3 ++ ((pcut ms (some (x5.1 + (1 : Int))) none).map (fun (x8 : Int) => x8 - x5.2)))).bind fun found11 =>
      Out.ok found11) (penumF pre.length xs) s = .ok (s ++ spreadL xs) := by
    intro xs
    induction xs with
    | nil => intro pre s _ _; unfold penumF spreadL; rw [Out.fold_nil, List.append_nil]
    | cons x xs ih =>
      intro pre s e hs
      unfold penumF
      rw [Out.fold_cons]
      dsimp only
      have hc : pcut ms (some ((pre.length : Int) + 1)) none = xs := by
        rw [show (pre.length : Int) + 1 = ((pre.length + 1 : Nat) : Int) by omega, pcut_from, e]
        rw [show pre ++ x :: xs = (pre ++ [x]) ++ xs by simp, List.drop_left' (by simp)]
      unfold spreadL at hs ⊢
      rw [List.length_append, List.length_map] at hs
      rw [hc, Out.bind_guard (by rw [List.length_map]; show _ ≤ 16777216; omega), Out.bind_ok, Out.bind_ok]
      have := ih (pre ++ [x]) (s ++ xs.map (fun y => y - x)) (by rw [e]; simp) (by rw [List.length_append, List.length_map]; omega)
      rw [show (pre ++ [x]).length = pre.length + 1 by simp] at this
      rw [this, List.append_assoc]
  have hq := spreadL_len ms
  have hb : ms.length * ms.length ≤ 1000 * 1000 := Nat.mul_le_mul hl hl
  have := key ms [] [] rfl (by rw [List.length_nil]; omega)
  rw [show penum ms = penumF ([] : List Int).length ms from rfl, this, List.nil_append, Out.bind_ok]
/-- all different distances -/
def spansL (ms : List Int) : List Int := isort ((dmk ((isort (spreadL ms)).map fun x => (x, true))).map (·.1))
theorem mem_spansL {ms : List Int} {d : Int} : d ∈ spansL ms ↔ d ∈ spreadL ms := by
  unfold spansL
  rw [mem_isort]
  show d ∈ keys (dmk _) ↔ _
  rw [mem_keys_dmk]
  unfold keys
  rw [List.map_map, show ((fun x : Int × Bool => x.1) ∘ fun x : Int => (x, true)) = id from rfl, List.map_id, mem_isort]
theorem spansL_lt (ms : List Int) : (spansL ms).Pairwise (· < ·) := isort_lt (dmk_nodup _)
theorem spansL_len (ms : List Int) : (spansL ms).length ≤ ms.length * ms.length := by
  refine Nat.le_trans ?_ (spreadL_len ms)
  unfold spansL
  rw [isort_length, List.length_map]
  refine Nat.le_trans (dmk_len _) ?_
  rw [List.length_map, isort_length]; exact Nat.le_refl _
/-- the spans of a good ruler -/
theorem RulOk.span {r : Rul} (h : RulOk r) {d : Int} (hd : d ∈ spansL r.marks) : 0 < d ∧ d ≤ 300 := by
  rw [mem_spansL, mem_spreadL] at hd
  obtain ⟨i, j, x, y, h1, h2, h3, rfl⟩ := hd
  have := pairwise_get h.lt h2 h3 h1
  have h4 := h.nn (List.mem_of_getElem? h2)
  have h5 := h.le y (List.mem_of_getElem? h3)
  omega
theorem RulOk.span_ne {r : Rul} (h : RulOk r) : ∃ d, d ∈ spansL r.marks := by
  have h2 := h.lo
  exact ⟨r.marks[1] - r.marks[0], by rw [mem_spansL, mem_spreadL]; exact ⟨0, 1, _, _, by omega, List.getElem?_eq_getElem (by omega), List.getElem?_eq_getElem (by omega), rfl⟩⟩
/-! ### racks -/
structure RakOk (r : Rak) : Prop where
  ru : ∀ p, p ∈ r.held → RulOk p.2
  nd : (keys r.held).Nodup
  ne : r.held ≠ []
  le : r.held.length ≤ 6
  so : (keys r.held).Pairwise fun a b => leS a b = true
def stepsU (held : List (S × Rul)) : List (S × Int) := held.flatMap fun p => (spansL p.2.marks).map (fun x => (p.1, 0 - x)) ++ (spansL p.2.marks).map (fun x => (p.1, x))
def stepsL (r : Rak) : List (S × Int) := psort (stepsU r.held)
theorem mem_stepsL {r : Rak} {st : S × Int} : st ∈ stepsL r ↔ ∃ p, p ∈ r.held ∧ st.1 = p.1 ∧ (st.2 ∈ spansL p.2.marks ∨ 0 - st.2 ∈ spansL p.2.marks) := by
  unfold stepsL
  rw [(psort_perm _).mem_iff]
  unfold stepsU
  rw [List.mem_flatMap]
  constructor
  · rintro ⟨p, hp, hs⟩
    rw [List.mem_append, List.mem_map, List.mem_map] at hs
    rcases hs with ⟨x, hx, rfl⟩ | ⟨x, hx, rfl⟩
    · exact ⟨p, hp, rfl, .inr (by simpa using hx)⟩
    · exact ⟨p, hp, rfl, .inl hx⟩
  · rintro ⟨p, hp, h1, h2⟩
    refine ⟨p, hp, ?_⟩
    rw [List.mem_append, List.mem_map, List.mem_map]
    rcases h2 with h2 | h2
    · exact .inr ⟨st.2, h2, by rw [← h1]⟩
    · exact .inl ⟨0 - st.2, h2, by rw [← h1]; simp⟩
/-! ### drawn marks, rulers, racks -/
theorem marks_yes {most length : Int} (h1 : 2 ≤ most) (h2 : most ≤ 12) (h3 : 1 ≤ length) (h4 : length ≤ 300) (bx : Bx) : (m_law_marks most length bx).yes fun r => r.1.Pairwise (· < ·) ∧ r.1[0]? = some 0 ∧ 2 ≤ r.1.length ∧ (r.1.length : Int) ≤ most ∧ ∀ m, m ∈ r.1 → m ≤ length := by
  unfold m_law_marks
  refine Out.yes_guard (by unfold RgOk; omega) (Out.yes_let (Out.yes_let ?_))
  refine Out.yes_bind (take_yes (by omega) (by omega) _) fun r9 h9 => ?_
  refine Out.yes_guard (by constructor <;> omega) ?_
  refine Out.yes_bind (R := fun s => s.1.Nodup ∧ (0 : Int) ∈ s.1 ∧ (∀ x, x ∈ s.1 → 0 ≤ x ∧ x ≤ length) ∧ 2 ≤ s.1.length ∧ (s.1.length : Int) ≤ most) (Out.yes.mono (Out.fold_yes (fun pre s => s.1.Nodup ∧ (0 : Int) ∈ s.1 ∧ (∀ x, x ∈ s.1 → 0 ≤ x ∧ x ≤ length) ∧ s.2.1.Nodup ∧ (∀ x, x ∈ s.2.1 → 1 ≤ x ∧ x ≤ length ∧ x ∉ s.1) ∧ (1 : Nat) ≤ s.1.length ∧ s.1.length ≤ 1 + pre.length ∧ (pre ≠ [] → 2 ≤ s.1.length) ∧ (pre = [] → s.2.1 ≠ []) ∧ s.2.1.length ≤ 300) _ _ ?_ fun pre x post s hp hI => ?_) fun s hs => ?_) fun s hs => ?_
  · refine ⟨by simp, by simp, by simp; omega, nodup_of_lt (rgI_lt _ _), fun x hx => ?_, by simp, by simp, by simp, fun _ => ?_, ?_⟩
    · rw [mem_rgI] at hx; refine ⟨by omega, by omega, ?_⟩; simp; omega
    · rw [rgI_cons (by omega)]; simp
    · rw [rgI_length]; omega
  · obtain ⟨i1, i2, i3, i4, i5, i6, i7, i8, i9, i10⟩ := hI
    have hplen : pre.length ≤ 12 := by
      have hl : (rgI 0 ((1 : Int) + r9.1)).length = pre.length + (post.length + 1) := by rw [hp]; simp
      rw [rgI_length] at hl; omega
    by_cases hl : s.2.1 = []
    · rw [if_neg (by simp [hl]), Out.bind_ok]
      refine Out.yes_ok ⟨i1, i2, i3, i4, i5, i6, by simp; omega, fun _ => ?_, fun z => by simp at z, i10⟩
      by_cases hpre : pre = []
      · exact absurd hl (i9 hpre)
      · exact i8 hpre
    · rw [if_pos (by simp [hl])]
      have hpos : 0 < s.2.1.length := List.length_pos_iff.mpr hl
      rw [Out.bind_assoc]
      refine Out.yes_bind (take_yes (by omega) (by omega) _) fun r14 h14 => ?_
      rw [Out.bind_assoc]
      refine Out.yes_guard h14.1 ?_
      have hlt : r14.1.toNat < s.2.1.length := by omega
      rw [Out.bind_assoc]
      refine Out.yes_get (List.getElem?_eq_getElem hlt) ?_
      rw [Out.bind_assoc]
      refine Out.yes_guard (by show _ ≤ 16777216; omega) ?_
      rw [Out.bind_assoc]
      refine Out.yes_guard (by show _ < 16777216; omega) ?_
      rw [Out.bind_ok, Out.bind_ok, Out.bind_ok]
      have hmem : s.2.1[r14.1.toNat] ∈ s.2.1 := List.getElem_mem _
      have hx := i5 _ hmem
      have hsub : ∀ y, y ∈ s.2.1.eraseIdx r14.1.toNat → y ∈ s.2.1 := fun y hy => List.mem_of_mem_eraseIdx hy
      refine Out.yes_ok ⟨?_, List.mem_append_left _ i2, fun y hy => ?_, ?_, fun y hy => ?_, by rw [List.length_append]; simp, by rw [List.length_append]; simp; omega, fun _ => by rw [List.length_append]; simp; omega, fun z => by simp at z, ?_⟩
      · rw [List.nodup_append]
        exact ⟨i1, by simp, fun a ha b hb => by rw [List.mem_singleton] at hb; subst hb; rintro rfl; exact hx.2.2 ha⟩
      · rcases List.mem_append.mp hy with hy | hy
        · exact i3 y hy
        · rw [List.mem_singleton] at hy; subst hy; omega
      · exact i4.sublist (List.eraseIdx_sublist _ _)
      · have hy' := i5 y (hsub y hy)
        refine ⟨hy'.1, hy'.2.1, fun z => ?_⟩
        rcases List.mem_append.mp z with z | z
        · exact hy'.2.2 z
        · rw [List.mem_singleton] at z
          subst z
          rw [List.mem_eraseIdx_iff_getElem?] at hy
          obtain ⟨j, hj, hget⟩ := hy
          have := (List.pairwise_iff_getElem.mp i4)
          obtain ⟨hjl, hje⟩ := List.getElem?_eq_some_iff.mp hget
          rcases Nat.lt_or_gt_of_ne hj with q | q
          · exact this j r14.1.toNat hjl hlt q hje
          · exact this r14.1.toNat j hlt hjl q hje.symm
      · rw [List.length_eraseIdx]; split <;> omega
  · obtain ⟨i1, i2, i3, i4, i5, i6, i7, i8, i9, i10⟩ := hs
    have hl : (rgI 0 ((1 : Int) + r9.1)).length = (1 + r9.1).toNat := by rw [rgI_length]; omega
    refine ⟨i1, i2, i3, i8 ?_, by omega⟩
    rw [rgI_cons (by omega)]; simp
  · obtain ⟨i1, i2, i3, i4, i5⟩ := hs
    refine Out.yes_ok ⟨isort_lt i1, ?_, by rw [isort_length]; exact i4, by rw [isort_length]; exact i5, fun m hm => (i3 m (mem_isort.mp hm)).2⟩
    have hlt := isort_lt i1
    cases e : isort s.1 with
    | nil => have : (isort s.1).length = 0 := by rw [e]; rfl
             rw [isort_length] at this; omega
    | cons a t =>
      have h0 : (0 : Int) ∈ a :: t := by rw [← e]; exact mem_isort.mpr i2
      have ha : a ∈ s.1 := mem_isort.mp (by rw [e]; simp)
      rw [e] at hlt
      rcases List.mem_cons.mp h0 with z | z
      · rw [← z]; rfl
      · have := (List.pairwise_cons.mp hlt).1 0 z
        have := i3 a ha
        omega
/-- a drawn ruler -/
structure LRul (most length : Int) (r : Rul) : Prop where
  ok : RulOk r
  few : (r.marks.length : Int) ≤ most
  short : ∀ m, m ∈ r.marks → m ≤ length
  e3 : r.error ≤ 3
theorem ruler_yes {most length : Int} (h1 : 2 ≤ most) (h2 : most ≤ 12) (h3 : 1 ≤ length) (h4 : length ≤ 300) (bx : Bx) : (m_law_ruler most length bx).yes fun r => LRul most length r.1 := by
  unfold m_law_ruler
  refine Out.yes_bind (marks_yes h1 h2 h3 h4 bx) fun r3 ⟨i1, i2, i3, i4, i5⟩ => ?_
  refine Out.yes_bind (take_yes (by omega) (by omega) _) fun r4 h4 => ?_
  have hok : RulOk ⟨r4.1, r3.1⟩ := ⟨i1, i2, i3, by dsimp only; omega, fun m hm => by have := i5 m hm; omega, h4.1, by dsimp only; omega⟩
  rw [mk_Ruler_ok hok, Out.bind_ok]
  exact Out.yes_ok ⟨hok, i4, i5, by dsimp only; omega⟩
/-! ### places on a bench -/
theorem stepsL_neg {r : Rak} {st : S × Int} (h : st ∈ stepsL r) : (st.1, 0 - st.2) ∈ stepsL r := by
  rw [mem_stepsL] at *
  obtain ⟨p, h1, h2, h3⟩ := h
  refine ⟨p, h1, h2, ?_⟩
  rcases h3 with h3 | h3
  · exact .inr (by simpa using h3)
  · exact .inl h3
theorem RakOk.step {r : Rak} (h : RakOk r) {st : S × Int} (hs : st ∈ stepsL r) : st.2 ≠ 0 ∧ -300 ≤ st.2 ∧ st.2 ≤ 300 := by
  rw [mem_stepsL] at hs
  obtain ⟨p, h1, h2, h3 | h3⟩ := hs
  · have := (h.ru p h1).span h3; omega
  · have := (h.ru p h1).span h3; omega
theorem RakOk.steps_ne {r : Rak} (h : RakOk r) : stepsL r ≠ [] := by
  have := h.ne
  cases e : r.held with
  | nil => exact absurd e this
  | cons p hs =>
    obtain ⟨d, hd⟩ := (h.ru p (by rw [e]; simp)).span_ne
    intro z
    have : (p.1, d) ∈ stepsL r := mem_stepsL.mpr ⟨p, by rw [e]; simp, rfl, .inl hd⟩
    rw [z] at this; cases this
theorem RakOk.steps_few {r : Rak} (hR : RakOk r) : (stepsL r).length < 1073741824 := by
  unfold stepsL
  rw [(psort_perm _).length_eq]
  have : ∀ hs : List (S × Rul), (∀ p, p ∈ hs → RulOk p.2) → (stepsU hs).length ≤ 300 * hs.length := by
    intro hs
    induction hs with
    | nil => intro _; simp [stepsU]
    | cons p hs ih =>
      intro h
      have := ih fun q hq => h q (List.mem_cons_of_mem _ hq)
      unfold stepsU at this ⊢
      rw [List.flatMap_cons, List.length_append, List.length_append, List.length_map, List.length_map, List.length_cons]
      have h12 := (h p List.mem_cons_self).hi
      have hs2 := spansL_len p.2.marks
      have : p.2.marks.length * p.2.marks.length ≤ 12 * 12 := Nat.mul_le_mul h12 h12
      omega
  have h1 := this r.held hR.ru
  have := hR.le
  omega
/-- the fewest layings, told by walks -/
theorem Bfs.same {nbr : Int → List Int} {b : Int} {f g : List (Int × Int)} (h : Bfs nbr b f) (k : Bfs nbr b g) (x : Int) : dget f x = dget g x := by
  cases e : dget f x with
  | some d => exact ((k.val x d).mpr ((h.val x d).mp e)).symm
  | none =>
    cases e2 : dget g x with
    | none => rfl
    | some d => rw [(h.val x d).mpr ((k.val x d).mp e2)] at e; cases e
theorem stepsU_nodup : ∀ {hs : List (S × Rul)}, (keys hs).Nodup → (∀ p, p ∈ hs → RulOk p.2) → (stepsU hs).Nodup
  | [], _, _ => by simp [stepsU]
  | p :: hs, hn, hr => by
    have ih := stepsU_nodup (List.nodup_cons.mp hn).2 fun q hq => hr q (List.mem_cons_of_mem _ hq)
    have hp := hr p List.mem_cons_self
    unfold stepsU at ih ⊢
    rw [List.flatMap_cons, List.nodup_append]
    refine ⟨?_, ih, fun a ha b hb => ?_⟩
    · rw [List.nodup_append]
      have hs := nodup_of_lt (spansL_lt p.2.marks)
      refine ⟨?_, ?_, fun a ha b hb => ?_⟩
      · unfold List.Nodup; rw [List.pairwise_map]; exact hs.imp fun h z => h (by have := congrArg Prod.snd z; dsimp only at this; omega)
      · unfold List.Nodup; rw [List.pairwise_map]; exact hs.imp fun h z => h (congrArg Prod.snd z)
      · rw [List.mem_map] at ha hb
        obtain ⟨x, hx, rfl⟩ := ha
        obtain ⟨y, hy, rfl⟩ := hb
        intro z
        have h1 := hp.span hx
        have h2 := hp.span hy
        have := congrArg Prod.snd z
        dsimp only at this
        omega
    · intro z
      have hk : p.1 ∉ keys hs := (List.nodup_cons.mp hn).1
      have ha1 : a.1 = p.1 := by
        rcases List.mem_append.mp ha with ha | ha <;> rw [List.mem_map] at ha <;> obtain ⟨x, _, rfl⟩ := ha <;> rfl
      rw [List.mem_flatMap] at hb
      obtain ⟨q, hq, hb⟩ := hb
      have hb1 : b.1 = q.1 := by
        rcases List.mem_append.mp hb with hb | hb <;> rw [List.mem_map] at hb <;> obtain ⟨x, _, rfl⟩ := hb <;> rfl
      apply hk
      rw [← ha1, z, hb1]
      exact List.mem_map.mpr ⟨q, hq, rfl⟩
theorem RakOk.steps_nd {r : Rak} (h : RakOk r) : (stepsL r).Nodup := by
  unfold stepsL
  exact (psort_perm _).nodup_iff.mpr (stepsU_nodup h.nd h.ru)
/-! ### common parts -/
/-! ### rings -/
theorem sum_bound {r : Rak} (h : RakOk r) : ∀ {row : List (S × Int)}, (∀ st, st ∈ row → st ∈ stepsL r) → -(300 * (row.length : Int)) ≤ (row.map (·.2)).sum ∧ (row.map (·.2)).sum ≤ 300 * (row.length : Int)
  | [], _ => by simp
  | st :: row, hm => by
    have h1 := h.step (hm st List.mem_cons_self)
    have h2 := sum_bound h fun q hq => hm q (List.mem_cons_of_mem _ hq)
    rw [List.map_cons, List.sum_cons, List.length_cons]
    omega
def nbrR (r : Rak) (m : Int) (p : Int) : List Int := (stepsL r).map fun st => (p + st.2) % m
theorem mem_nbrR {r : Rak} {m x y : Int} : y ∈ nbrR r m x ↔ ∃ st, st ∈ stepsL r ∧ y = (x + st.2) % m := by
  unfold nbrR; rw [List.mem_map]
  constructor
  · rintro ⟨st, h1, rfl⟩; exact ⟨st, h1, rfl⟩
  · rintro ⟨st, h1, rfl⟩; exact ⟨st, h1, rfl⟩
theorem nbrR_in {r : Rak} {m x y : Int} (hm : 0 < m) (h : y ∈ nbrR r m x) : 0 ≤ y ∧ y < m := by
  obtain ⟨st, _, rfl⟩ := mem_nbrR.mp h
  exact ⟨Int.emod_nonneg _ (by omega), Int.emod_lt_of_pos _ hm⟩
theorem nbrR_symm {r : Rak} {m : Int} (hm : 0 < m) {x y : Int} (hx : 0 ≤ x ∧ x < m) (h : y ∈ nbrR r m x) : (0 ≤ y ∧ y < m) ∧ x ∈ nbrR r m y := by
  refine ⟨nbrR_in hm h, ?_⟩
  obtain ⟨st, h1, rfl⟩ := mem_nbrR.mp h
  refine mem_nbrR.mpr ⟨_, stepsL_neg h1, ?_⟩
  rw [emod_add_cancel, show x + st.2 + (0 - st.2) = x by omega, Int.emod_eq_of_lt hx.1 hx.2]
/-- a row on a ring: the first laying by which it is nearer, again and again -/
theorem pix_zero {α : Type} {xs : List α} {x : α} (h : x ∈ xs) : ∃ y, pix xs 0 = some y ∧ y ∈ xs := pix_some (Int.le_refl 0) (by have := List.length_pos_of_mem h; omega)
/-- what can be come to on a ring -/
theorem ring_reach_iff {r : Rak} {m c : Int} (hm : 0 < m) (hc : ∀ st, st ∈ stepsL r → c ∣ st.2) (hu : ∀ d : Int, (∀ st, st ∈ stepsL r → d ∣ st.2) → d ∣ c) {G : Int} (hG1 : G ∣ c) (hG2 : G ∣ m) (hG : ∀ d : Int, d ∣ c → d ∣ m → d ∣ G) {x y : Int} (hx : 0 ≤ x ∧ x < m) : (∃ n, Wkn (nbrR r m) x n y) ↔ 0 ≤ y ∧ y < m ∧ G ∣ y - x := by
  rw [wkn_rch]
  have := ring_mem (S := fun s => ∃ st, st ∈ stepsL r ∧ st.2 = s) hm (fun s ⟨st, h1, h2⟩ => ⟨_, stepsL_neg h1, by dsimp only; omega⟩) (fun s ⟨st, h1, h2⟩ => h2 ▸ hc st h1) (fun d hd => hu d fun st hst => hd st.2 ⟨st, hst, rfl⟩) hG1 hG2 hG (y := y) hx
  rw [← this]
  have e : (fun x y => y ∈ nbrR r m x) = RR (fun s => ∃ st, st ∈ stepsL r ∧ st.2 = s) m := by
    funext x y
    apply propext
    rw [mem_nbrR]
    constructor
    · rintro ⟨st, h1, h2⟩; exact ⟨st.2, ⟨st, h1, rfl⟩, h2⟩
    · rintro ⟨s, ⟨st, h1, rfl⟩, h2⟩; exact ⟨st, h1, h2⟩
  rw [e]
theorem gcd_props {a b : Int} (ha : 0 ≤ a) (hb : 0 < b) : 0 < ((Nat.gcd a.toNat b.toNat : Nat) : Int) ∧ ((Nat.gcd a.toNat b.toNat : Nat) : Int) ∣ a ∧ ((Nat.gcd a.toNat b.toNat : Nat) : Int) ∣ b ∧ ∀ d : Int, d ∣ a → d ∣ b → d ∣ ((Nat.gcd a.toNat b.toNat : Nat) : Int) := by
  have e1 : (a.toNat : Int) = a := Int.toNat_of_nonneg ha
  have e2 : (b.toNat : Int) = b := Int.toNat_of_nonneg (by omega)
  refine ⟨?_, ?_, ?_, fun d h1 h2 => ?_⟩
  · have := Nat.gcd_pos_of_pos_right a.toNat (show 0 < b.toNat by omega); omega
  · have := Int.natCast_dvd_natCast.mpr (Nat.gcd_dvd_left a.toNat b.toNat); rwa [e1] at this
  · have := Int.natCast_dvd_natCast.mpr (Nat.gcd_dvd_right a.toNat b.toNat); rwa [e2] at this
  · rw [← Int.natAbs_dvd, Int.natCast_dvd_natCast]
    apply Nat.dvd_gcd
    · have := Int.natAbs_dvd_natAbs.mpr h1; rwa [show a.natAbs = a.toNat by omega] at this
    · have := Int.natAbs_dvd_natAbs.mpr h2; rwa [show b.natAbs = b.toNat by omega] at this
/-! ### the law's own spans and layings -/
theorem law_different_spans (ms : List Int) : m_law_different (isort (spreadL ms)) = spansL ms := rfl
/-! ### meetings -/
/-- the fewest times t with t steps = d on a ring -/
def IsTimes (m s d t : Int) : Prop := 0 ≤ t ∧ t < m / ((Nat.gcd m.toNat s.toNat : Nat) : Int) ∧ m ∣ t * s - d
theorem IsTimes.uniq {m s d t u : Int} (hm : 0 < m) (hs : 0 ≤ s) (h : IsTimes m s d t) (k : IsTimes m s d u) : t = u := by
  have hcop := Nat.coprime_div_gcd_div_gcd (m := m.toNat) (n := s.toNat) (Nat.gcd_pos_of_pos_left _ (by omega))
  have g0 : 0 < Nat.gcd m.toNat s.toNat := Nat.gcd_pos_of_pos_left _ (by omega)
  have gm := Nat.gcd_dvd_left m.toNat s.toNat
  have gs := Nat.gcd_dvd_right m.toNat s.toNat
  have e1 : m / ((Nat.gcd m.toNat s.toNat : Nat) : Int) = ((m.toNat / Nat.gcd m.toNat s.toNat : Nat) : Int) := by
    rw [Int.natCast_ediv, Int.toNat_of_nonneg (by omega)]
  have e2 : s / ((Nat.gcd m.toNat s.toNat : Nat) : Int) = ((s.toNat / Nat.gcd m.toNat s.toNat : Nat) : Int) := by
    rw [Int.natCast_ediv, Int.toNat_of_nonneg hs]
  obtain ⟨x, y, hxy⟩ := bezout (m.toNat / Nat.gcd m.toNat s.toNat) (s.toNat / Nat.gcd m.toNat s.toNat)
  rw [show Nat.gcd (m.toNat / Nat.gcd m.toNat s.toNat) (s.toNat / Nat.gcd m.toNat s.toNat) = 1 from hcop] at hxy
  refine times_uniq (s := s) (g := ((Nat.gcd m.toNat s.toNat : Nat) : Int)) (size := m / ((Nat.gcd m.toNat s.toNat : Nat) : Int)) hm ?_ ?_ ⟨y, -x, ?_⟩ (by omega) h.1 h.2.1 k.1 k.2.1 ?_
  · rw [Int.mul_ediv_cancel']
    have := Int.natCast_dvd_natCast.mpr gm; rwa [Int.toNat_of_nonneg (by omega)] at this
  · have := Int.natCast_dvd_natCast.mpr gs; rwa [Int.toNat_of_nonneg hs] at this
  · rw [e1, e2, Int.mul_neg]
    have : ((1 : Nat) : Int) = 1 := rfl
    omega
  · have := Int.dvd_sub h.2.2 k.2.2
    rwa [show t * s - d - (u * s - d) = t * s - u * s by omega] at this
def TimesIs (m s d : Int) (o : Option Int) : Prop := match o with
  | none => ∀ t, ¬ m ∣ t * s - d
  | some t => IsTimes m s d t
theorem TimesIs.uniq {m s d : Int} (hm : 0 < m) (hs : 0 ≤ s) {o p : Option Int} (h : TimesIs m s d o) (k : TimesIs m s d p) : o = p := by
  cases o with
  | none =>
    cases p with
    | none => rfl
    | some t => exact absurd k.2.2 (h t)
  | some t =>
    cases p with
    | none => exact absurd h.2.2 (k t)
    | some u => rw [IsTimes.uniq hm hs h k]
def oneO (k : Nat) : Option Int → List (Int × Int)
  | some t => [(t, (k : Int))]
  | none => []
def foundO : Nat → List (Option Int) → List (Int × Int)
  | _, [] => []
  | k, o :: os => oneO k o ++ foundO (k + 1) os
theorem foundO_len : ∀ (k : Nat) (os : List (Option Int)), (foundO k os).length ≤ os.length
  | _, [] => Nat.le_refl _
  | k, o :: os => by
    have := foundO_len (k + 1) os
    unfold foundO
    rw [List.length_append, List.length_cons]
    cases o <;> simp [oneO] <;> omega
theorem mem_foundO : ∀ {k : Nat} {os : List (Option Int)} {p : Int × Int}, p ∈ foundO k os → ∃ j : Nat, os[j]? = some (some p.1) ∧ p.2 = ((k + j : Nat) : Int)
  | k, [], p, h => by cases h
  | k, o :: os, p, h => by
    unfold foundO at h
    rcases List.mem_append.mp h with h | h
    · cases o with
      | none => cases h
      | some t =>
        have h := List.mem_singleton.mp (show p ∈ [(t, (k : Int))] from h)
        subst h
        exact ⟨0, rfl, rfl⟩
    · obtain ⟨j, h1, h2⟩ := mem_foundO h
      exact ⟨j + 1, by simpa using h1, by rw [h2]; congr 1; omega⟩
/-- the way of a row up to a place -/
def upTo (row : List (S × Int)) (i : Nat) : Int := ((row.take (i + 1)).map (·.2)).sum
theorem dmin_mem {α : Type} {en : α → D} {xs : List α} {x : α} (h : dmin en xs = some x) : x ∈ xs := by
  have key : ∀ (ys : List α) (b : α), ys.foldl (fun a y => if ltC en y a = true then y else a) b ∈ b :: ys := by
    intro ys
    induction ys with
    | nil => intro b; simp
    | cons y ys ih =>
      intro b
      rw [List.foldl_cons]
      by_cases z : ltC en y b = true
      · rw [if_pos z]; exact List.mem_cons_of_mem _ (ih y)
      · rw [if_neg z]
        rcases List.mem_cons.mp (ih b) with w | w
        · rw [w]; simp
        · exact List.mem_cons_of_mem _ (List.mem_cons_of_mem _ w)
  cases xs with
  | nil => cases h
  | cons y ys =>
    have : ys.foldl (fun a y => if ltC en y a = true then y else a) y = x := Option.some.inj h
    rw [← this]; exact key ys y
/-! ### first meetings, by the number of a laying -/
theorem emod_dv (a m : Int) : m ∣ a % m - a := by
  have := Int.mul_ediv_add_emod a m
  exact ⟨-(a / m), by rw [Int.mul_neg]; omega⟩
theorem emod_eq_of_dvd {m a b : Int} (h : m ∣ a - b) : a % m = b % m := Int.emod_eq_emod_iff_emod_sub_eq_zero.mpr (Int.emod_eq_zero_of_dvd h)
theorem dvd_of_emod_eq {m a b : Int} (h : a % m = b % m) : m ∣ a - b := Int.dvd_of_emod_eq_zero (Int.emod_eq_emod_iff_emod_sub_eq_zero.mp h)
theorem ltC_II (a b : Int × Int) : ltC (eP eI eI) a b = if a.1 = b.1 then decide (a.2 < b.2) else decide (a.1 < b.1) := by
  rw [ltC_pair orc_int orc_int, ltC_int, ltC_int]
theorem dmin_least {xs : List (Int × Int)} {x : Int × Int} (h : dmin (eP eI eI) xs = some x) : ∀ y, y ∈ xs → x.1 < y.1 ∨ (x.1 = y.1 ∧ x.2 ≤ y.2) := by
  have hlt : ∀ a b : Int × Int, ltC (eP eI eI) a b = true ↔ (a.1 < b.1 ∨ (a.1 = b.1 ∧ a.2 < b.2)) := fun a b => by
    rw [ltC_II]
    by_cases z : a.1 = b.1
    · rw [if_pos z, decide_eq_true_eq]; omega
    · rw [if_neg z, decide_eq_true_eq]; omega
  have key : ∀ (ys : List (Int × Int)) (b : Int × Int), ∀ y, y ∈ b :: ys → (ys.foldl (fun a y => if ltC (eP eI eI) y a = true then y else a) b).1 < y.1 ∨ ((ys.foldl (fun a y => if ltC (eP eI eI) y a = true then y else a) b).1 = y.1 ∧ (ys.foldl (fun a y => if ltC (eP eI eI) y a = true then y else a) b).2 ≤ y.2) := by
    intro ys
    induction ys with
    | nil =>
      intro b y hy
      rw [List.mem_singleton] at hy
      subst hy
      exact .inr ⟨rfl, Int.le_refl _⟩
    | cons c ys ih =>
      intro b y hy
      rw [List.foldl_cons]
      by_cases z : ltC (eP eI eI) c b = true
      · rw [if_pos z]
        rw [hlt] at z
        have hc := ih c c List.mem_cons_self
        rcases List.mem_cons.mp hy with rfl | hy
        · omega
        · exact ih c y hy
      · rw [if_neg z]
        rw [hlt] at z
        have hb := ih b b List.mem_cons_self
        rcases List.mem_cons.mp hy with rfl | hy
        · exact hb
        · rcases List.mem_cons.mp hy with rfl | hy
          · omega
          · exact ih b y (List.mem_cons_of_mem _ hy)
  cases xs with
  | nil => cases h
  | cons a xs =>
    have : xs.foldl (fun a y => if ltC (eP eI eI) y a = true then y else a) a = x := Option.some.inj h
    rw [← this]
    exact key xs a
theorem foundO_mem : ∀ {k : Nat} {os : List (Option Int)} {j : Nat} {t : Int}, os[j]? = some (some t) → (t, ((k + j : Nat) : Int)) ∈ foundO k os
  | k, [], j, t, h => by simp at h
  | k, o :: os, 0, t, h => by
    have : o = some t := by simpa using h
    subst this
    unfold foundO oneO
    exact List.mem_append_left _ (List.mem_singleton.mpr rfl)
  | k, o :: os, j + 1, t, h => by
    unfold foundO
    refine List.mem_append_right _ ?_
    have := foundO_mem (k := k + 1) (show os[j]? = some (some t) by simpa using h)
    rwa [show k + 1 + j = k + (j + 1) by omega] at this
/-- the rounds until the place is the first one again -/
def roundsOf (m T : Int) : Int := m / ((Nat.gcd m.toNat (T % m).toNat : Nat) : Int)
theorem rounds_pos {m T : Int} (hm : 0 < m) : 1 ≤ roundsOf m T ∧ roundsOf m T ≤ m ∧ m ∣ roundsOf m T * T := by
  have hT := Int.emod_nonneg T (show m ≠ 0 by omega)
  have g0 : 0 < Nat.gcd m.toNat (T % m).toNat := Nat.gcd_pos_of_pos_left _ (by omega)
  have d1 := Int.natCast_dvd_natCast.mpr (Nat.gcd_dvd_left m.toNat (T % m).toNat)
  have d2 := Int.natCast_dvd_natCast.mpr (Nat.gcd_dvd_right m.toNat (T % m).toNat)
  rw [Int.toNat_of_nonneg (by omega)] at d1
  rw [Int.toNat_of_nonneg hT] at d2
  unfold roundsOf
  generalize hG : ((Nat.gcd m.toNat (T % m).toNat : Nat) : Int) = G at d1 d2 ⊢
  have G0 : 0 < G := by omega
  obtain ⟨R, rfl⟩ := d1
  rw [Int.mul_ediv_cancel_left _ (by omega)]
  have R0 : 0 < R := Int.pos_of_mul_pos_right hm (by omega)
  refine ⟨by omega, ?_, ?_⟩
  · have := Int.mul_le_mul_of_nonneg_right (show 1 ≤ G by omega) (show 0 ≤ R by omega); omega
  · obtain ⟨s, hs⟩ := d2
    have h1 : G * R ∣ R * (T % (G * R)) := ⟨s, by rw [hs]; ac_rfl⟩
    have h2 : G * R ∣ R * (T % (G * R)) - R * T := by rw [← Int.mul_sub]; exact Int.dvd_mul_of_dvd_right (emod_dv _ _)
    have := Int.dvd_sub h1 h2
    rwa [show R * (T % (G * R)) - (R * (T % (G * R)) - R * T) = R * T by omega] at this
theorem rounds_least {m T t : Int} (hm : 0 < m) (h0 : 0 < t) (h1 : t < roundsOf m T) : ¬ m ∣ t * T := fun h => by
  have hT := Int.emod_nonneg T (show m ≠ 0 by omega)
  have k1 : IsTimes m (T % m) 0 t := ⟨by omega, h1, by
    have h2 : m ∣ t * (T % m) - t * T := by rw [← Int.mul_sub]; exact Int.dvd_mul_of_dvd_right (emod_dv _ _)
    have := Int.dvd_add h2 h
    rwa [show t * (T % m) - t * T + t * T = t * (T % m) - 0 by omega] at this⟩
  have k2 : IsTimes m (T % m) 0 0 := ⟨by omega, by have := (rounds_pos (T := T) hm).1; unfold roundsOf at this; omega, by simp⟩
  have := IsTimes.uniq hm hT k1 k2
  omega
/-- the place behind the laying of a number -/
def plOf (row : List (S × Int)) (m : Int) (k : Nat) : Int := (((k / row.length : Nat) : Int) * (row.map (·.2)).sum + upTo row (k % row.length)) % m
def FirstAt (row : List (S × Int)) (m p : Int) (k : Nat) : Prop := plOf row m k = p ∧ ∀ j, j < k → plOf row m j ≠ p
theorem FirstAt.uniq {row : List (S × Int)} {m p : Int} {j k : Nat} (h : FirstAt row m p j) (g : FirstAt row m p k) : j = k := by
  rcases Nat.lt_trichotomy j k with z | z | z
  · exact absurd h.1 (g.2 j z)
  · exact z
  · exact absurd g.1 (h.2 k z)
theorem firstAt_of {row : List (S × Int)} {m p : Int} : ∀ (k : Nat), plOf row m k = p → ∃ j, j ≤ k ∧ FirstAt row m p j := by
  intro k
  induction k using Nat.strongRecOn with
  | ind k ih =>
    intro h
    by_cases z : ∃ j, j < k ∧ plOf row m j = p
    · obtain ⟨j, z1, z2⟩ := z
      obtain ⟨i, i1, i2⟩ := ih j z1 z2
      exact ⟨i, by omega, i2⟩
    · exact ⟨k, Nat.le_refl _, h, fun j hj e => z ⟨j, hj, e⟩⟩
theorem pl_at {row : List (S × Int)} {m : Int} {t i : Nat} (hi : i < row.length) : (row.length * t + i) / row.length = t ∧ (row.length * t + i) % row.length = i := by
  have hn : 0 < row.length := by omega
  rw [Nat.mul_add_div hn, Nat.mul_add_mod, Nat.div_eq_of_lt hi, Nat.mod_eq_of_lt hi]
  omega
theorem pl_eq {row : List (S × Int)} {m : Int} {t i : Nat} (hi : i < row.length) : plOf row m (row.length * t + i) = ((t : Int) * (row.map (·.2)).sum + upTo row i) % m := by
  unfold plOf
  rw [(pl_at (m := m) hi).1, (pl_at (m := m) hi).2]
/-- the firsts of all layings ahead of a number -/
def Firsts (row : List (S × Int)) (m : Int) (k : Nat) (d : List (Int × (Int × Int))) : Prop := ∀ p v, dget d p = some v ↔ (p = 0 ∧ v = (0, -1)) ∨ (p ≠ 0 ∧ ∃ j, j < k ∧ FirstAt row m p j ∧ v = (((j / row.length : Nat) : Int), ((j % row.length : Nat) : Int)))
theorem firsts_zero {row : List (S × Int)} {m : Int} : Firsts row m 0 [((0 : Int), ((0 : Int), (-1 : Int)))] := by
  intro p v
  by_cases z : p = 0
  · subst z
    rw [show dget [((0 : Int), ((0 : Int), (-1 : Int)))] 0 = some (0, -1) from rfl]
    constructor
    · intro e; exact .inl ⟨rfl, (Option.some.inj e).symm⟩
    · rintro (⟨_, e⟩ | ⟨e, _⟩)
      · rw [e]
      · exact absurd rfl e
  · rw [show dget [((0 : Int), ((0 : Int), (-1 : Int)))] p = none from dget_none.mpr (by show p ∉ [(0 : Int)]; simp [z])]
    constructor
    · intro e; cases e
    · rintro (⟨e, _⟩ | ⟨_, j, hj, _⟩)
      · exact absurd e z
      · omega
theorem firsts_put {row : List (S × Int)} {m : Int} {k : Nat} {d d' : List (Int × (Int × Int))} (h : Firsts row m k d)
    (hq : dget d' (plOf row m k) = some ((dget d (plOf row m k)).getD (((k / row.length : Nat) : Int), ((k % row.length : Nat) : Int)))) (ho : ∀ p, p ≠ plOf row m k → dget d' p = dget d p) : Firsts row m (k + 1) d' := by
  intro p v
  by_cases z : p = plOf row m k
  · subst z
    rw [hq]
    cases hd : dget d (plOf row m k) with
    | some w =>
      show some w = some v ↔ _
      rcases (h _ w).mp hd with ⟨e1, e2⟩ | ⟨e1, j, j1, j2, j3⟩
      · rw [e1]
        constructor
        · intro e; exact .inl ⟨rfl, by rw [← Option.some.inj e, e2]⟩
        · rintro (⟨_, e⟩ | ⟨e, _⟩)
          · rw [e, e2]
          · exact absurd rfl e
      · constructor
        · intro e; exact .inr ⟨e1, j, by omega, j2, by rw [← Option.some.inj e, j3]⟩
        · rintro (⟨e, _⟩ | ⟨_, j', _, i2, i3⟩)
          · exact absurd e e1
          · rw [i2.uniq j2] at i3; rw [i3, j3]
    | none =>
      show some _ = some v ↔ _
      have hp0 : plOf row m k ≠ 0 := fun e => by rw [e, (h 0 (0, -1)).mpr (.inl ⟨rfl, rfl⟩)] at hd; cases hd
      have hF : FirstAt row m (plOf row m k) k := by
        obtain ⟨j, j1, j2⟩ := firstAt_of k (rfl : plOf row m k = plOf row m k)
        rcases Nat.lt_or_ge j k with y | y
        · rw [(h _ (((j / row.length : Nat) : Int), ((j % row.length : Nat) : Int))).mpr (.inr ⟨hp0, j, y, j2, rfl⟩)] at hd; cases hd
        · have : j = k := by omega
          rwa [this] at j2
      constructor
      · intro e; exact .inr ⟨hp0, k, by omega, hF, (Option.some.inj e).symm⟩
      · rintro (⟨e, _⟩ | ⟨_, j, _, i2, i3⟩)
        · exact absurd e hp0
        · rw [i2.uniq hF] at i3; rw [i3]; rfl
  · rw [ho p z, h p v]
    constructor
    · rintro (e | ⟨e, j, j1, j2⟩)
      · exact .inl e
      · exact .inr ⟨e, j, by omega, j2⟩
    · rintro (e | ⟨e, j, j1, j2, j3⟩)
      · exact .inl e
      · refine .inr ⟨e, j, ?_, j2, j3⟩
        rcases Nat.lt_or_ge j k with y | y
        · exact y
        · have : j = k := by omega
          subst this
          exact absurd j2.1.symm z
theorem upTo_succ {row : List (S × Int)} {i : Nat} {st : S × Int} (h : row[i]? = some st) : upTo row i = ((row.take i).map (·.2)).sum + st.2 := by
  unfold upTo
  rw [List.take_add_one, h]
  simp
/-! ### the first laying by which it is nearer -/
def greedy (dist : Int → Option Int) (nx : Int → S × Int → Int) (steps : List (S × Int)) : Nat → Int → List (S × Int)
  | 0, _ => []
  | k + 1, p => match steps.find? (fun st => decide (dist (nx p st) = some (k : Int))) with
    | some st => st :: greedy dist nx steps k (nx p st)
    | none => []
theorem greedy_congr {d1 d2 : Int → Option Int} (h : ∀ x, d1 x = d2 x) (nx : Int → S × Int → Int) (steps : List (S × Int)) (k : Nat) (p : Int) : greedy d1 nx steps k p = greedy d2 nx steps k p := by
  rw [show d1 = d2 from funext h]
theorem greedy_len (dist : Int → Option Int) (nx : Int → S × Int → Int) (steps : List (S × Int)) : ∀ (k : Nat) (p : Int), (greedy dist nx steps k p).length ≤ k
  | 0, _ => Nat.le_refl _
  | k + 1, p => by
    unfold greedy
    split
    · rw [List.length_cons]; exact Nat.succ_le_succ (greedy_len dist nx steps k _)
    · simp
/-- a loop that goes on by it, its state by a place and a row -/
theorem greedy_whl {σ : Type} {c : σ → Out Bool} {f : σ → Out σ} {mk : List (S × Int) → Int → σ} {dist : Int → Option Int} {nx : Int → S × Int → Int} {steps : List (S × Int)} {g : Int} {M : Nat} (V : Int → Prop)
    (hc : ∀ acc p, c (mk acc p) = .ok (!decide (p = g))) (hz : ∀ p, V p → (dist p = some 0 ↔ p = g))
    (hnear : ∀ p (k : Nat), V p → dist p = some ((k + 1 : Nat) : Int) → ∃ st, st ∈ steps ∧ dist (nx p st) = some (k : Int))
    (hV : ∀ p st, V p → st ∈ steps → dist (nx p st) ≠ none → V (nx p st))
    (hf : ∀ acc p (k : Nat) st, V p → acc.length + (k + 1) ≤ M → dist p = some ((k + 1 : Nat) : Int) → steps.find? (fun st => decide (dist (nx p st) = some (k : Int))) = some st → f (mk acc p) = .ok (mk (acc ++ [st]) (nx p st))) :
    ∀ (k : Nat) (acc : List (S × Int)) (p : Int) (N : Nat), V p → dist p = some (k : Int) → acc.length + k ≤ M → k < N → Out.whl c f N (mk acc p) = .ok (mk (acc ++ greedy dist nx steps k p) g)
  | k, acc, p, 0, _, _, _, hN => absurd hN (by omega)
  | 0, acc, p, N + 1, hv, hd, _, _ => by
    have e := (hz p hv).mp hd
    subst e
    unfold Out.whl greedy
    rw [hc, Out.bind_ok, if_neg (by simp), List.append_nil]
  | k + 1, acc, p, N + 1, hv, hd, hM, hN => by
    have hne : p ≠ g := fun e => by rw [(hz p hv).mpr e] at hd; have := Option.some.inj hd; omega
    obtain ⟨st0, s1, s2⟩ := hnear p k hv hd
    have hs : (steps.find? (fun st => decide (dist (nx p st) = some (k : Int)))).isSome = true := by
      rw [List.find?_isSome]; exact ⟨st0, s1, by simp [s2]⟩
    obtain ⟨st, hst⟩ := Option.isSome_iff_exists.mp hs
    have hp := List.find?_some hst
    rw [decide_eq_true_eq] at hp
    have hmem := List.mem_of_find?_eq_some hst
    unfold Out.whl
    rw [hc, Out.bind_ok, if_pos (by simp [hne]), hf acc p k st hv (by omega) hd hst, Out.bind_ok]
    rw [greedy_whl V hc hz hnear hV hf k (acc ++ [st]) (nx p st) N (hV p st hv hmem (by rw [hp]; simp)) hp (by rw [List.length_append]; simp; omega) (by omega)]
    rw [show greedy dist nx steps (k + 1) p = st :: greedy dist nx steps k (nx p st) by rw [greedy, hst]]
    rw [List.append_assoc]; rfl
theorem getD_near {o : Option Int} {k : Nat} {x : Int} (hx : x = ((k + 1 : Nat) : Int) - 1) : (o.getD (-1) = x) ↔ o = some (k : Int) := by
  cases o with
  | none => simp; omega
  | some v => simp; omega
theorem pix_head {α : Type} {xs : List α} {p : α → Bool} {x : α} (h : xs.find? p = some x) : pix (xs.filterMap fun a => if p a = true then some a else none) 0 = some x := by
  have e : (xs.filterMap fun a => if p a = true then some a else none) = xs.filter p := by
    rw [← List.filterMap_eq_filter]
    congr 1
  rw [e]
  have hh : (xs.filter p)[0]? = some x := by rw [← List.head?_eq_getElem?, List.head?_filter]; exact h
  exact pix_nat (i := 0) hh
/-- the loop with a break finds the first one -/
theorem loop_find {α σ : Type} {p : α → Bool} {g : α → σ} {s : σ} {f : σ → α → Out (Rt σ σ)} : ∀ (xs : List α), (∀ x, x ∈ xs → f s x = .ok (if p x = true then .rt (g x) else .nx s)) → Out.loop f xs s = .ok (match xs.find? p with | some x => .rt (g x) | none => .nx s)
  | [], _ => rfl
  | x :: xs, h => by
    unfold Out.loop
    rw [h x List.mem_cons_self, Out.bind_ok]
    by_cases z : p x = true
    · rw [if_pos z, List.find?_cons_of_pos z]
    · rw [if_neg z, List.find?_cons_of_neg z]
      exact loop_find xs fun y hy => h y (List.mem_cons_of_mem _ hy)
def nxR (m : Int) (p : Int) (st : S × Int) : Int := (p + st.2) % m
def nxB (p : Int) (st : S × Int) : Int := p + st.2
theorem Bfs.zero {nbr : Int → List Int} {b : Int} {f : List (Int × Int)} (h : Bfs nbr b f) {p : Int} : dget f p = some 0 ↔ p = b := by
  rw [h.val]
  constructor
  · rintro ⟨n, e, hd⟩
    have : n = 0 := by omega
    subst this
    exact hd.1
  · intro e
    exact ⟨0, rfl, e, fun m hm => absurd hm (by omega)⟩
theorem ring_zero {r : Rak} {m g : Int} {far : List (Int × Int)} (hB : Bfs (nbrR r m) g far) {p : Int} : dget far p = some 0 ↔ p = g := hB.zero
theorem ring_near {r : Rak} {m g : Int} {far : List (Int × Int)} (hB : Bfs (nbrR r m) g far) (hm : 0 < m) (hg : 0 ≤ g ∧ g < m) {p : Int} {k : Nat} (hp : 0 ≤ p ∧ p < m) (hd : dget far p = some ((k + 1 : Nat) : Int)) : ∃ st, st ∈ stepsL r ∧ dget far (nxR m p st) = some (k : Int) := by
  obtain ⟨n, e, k1⟩ := (hB.val _ _).mp hd
  have : n = k + 1 := by omega
  subst this
  obtain ⟨y, hy1, hy2⟩ := k1.1
  have hyd : Dst (nbrR r m) g k y := ⟨hy1, fun q hq hw => k1.2 (q + 1) (by omega) ⟨y, hw, hy2⟩⟩
  have hyin := Wkn.inv (P := fun x => 0 ≤ x ∧ x < m) (fun x y _ hy => nbrR_in hm hy) hg hy1
  obtain ⟨st0, s1, s2⟩ := mem_nbrR.mp (nbrR_symm hm hyin hy2).2
  exact ⟨st0, s1, by unfold nxR; rw [← s2]; exact (hB.val y k).mpr ⟨k, rfl, hyd⟩⟩
theorem fold_filter {α σ : Type} {f : σ → α → Out σ} {p : α → Bool} : ∀ (xs : List α) (s : σ), (∀ s x, x ∈ xs → p x = false → f s x = .ok s) → Out.fold f xs s = Out.fold f (xs.filter p) s
  | [], _, _ => rfl
  | x :: xs, s, h => by
    by_cases z : p x = true
    · rw [List.filter_cons_of_pos z, Out.fold_cons, Out.fold_cons]
      congr 1
      funext s'
      exact fold_filter xs s' fun s y hy => h s y (List.mem_cons_of_mem _ hy)
    · rw [List.filter_cons_of_neg z, Out.fold_cons, h s x List.mem_cons_self (by simpa using z), Out.bind_ok]
      exact fold_filter xs s fun s y hy => h s y (List.mem_cons_of_mem _ hy)
theorem alB_rows {o : Option (List (S × Int))} (h : ∀ row, o = some row → row.length ≤ LIM) : alB 2 ((eO (eL (eP eZ eI))) o) = true := by
  cases o with
  | none => rfl
  | some row =>
    show (decide ((row.map (eP eZ eI)).length ≤ LIM) && (row.map (eP eZ eI)).all (alB 1)) = true
    rw [Bool.and_eq_true, decide_eq_true_eq, List.length_map, List.all_eq_true]
    refine ⟨h row rfl, fun d hd => ?_⟩
    obtain ⟨st, _, rfl⟩ := List.mem_map.mp hd
    rfl
/-! ### least rows -/
def rle : List Nat → List Nat → Prop
  | [], [] => True
  | a :: as, b :: bs => a < b ∨ (a = b ∧ rle as bs)
  | _, _ => False
theorem rle_refl : ∀ x : List Nat, rle x x
  | [] => trivial
  | a :: as => .inr ⟨rfl, rle_refl as⟩
theorem rle_trans : ∀ {x y z : List Nat}, rle x y → rle y z → rle x z
  | [], [], [], _, _ => trivial
  | [], [], _ :: _, _, h => h.elim
  | [], _ :: _, _, h, _ => h.elim
  | _ :: _, [], _, h, _ => h.elim
  | _ :: _, _ :: _, [], _, h => h.elim
  | a :: as, b :: bs, c :: cs, h1, h2 => by
    rcases h1 with h1 | ⟨h1, k1⟩
    · rcases h2 with h2 | ⟨h2, k2⟩
      · exact .inl (by omega)
      · exact .inl (by omega)
    · rcases h2 with h2 | ⟨h2, k2⟩
      · exact .inl (by omega)
      · exact .inr ⟨by omega, rle_trans k1 k2⟩
theorem rle_antisymm : ∀ {x y : List Nat}, rle x y → rle y x → x = y
  | [], [], _, _ => rfl
  | [], _ :: _, h, _ => h.elim
  | _ :: _, [], h, _ => h.elim
  | a :: as, b :: bs, h1, h2 => by
    rcases h1 with h1 | ⟨h1, k1⟩
    · rcases h2 with h2 | ⟨h2, k2⟩ <;> omega
    · rcases h2 with h2 | ⟨h2, k2⟩
      · omega
      · rw [h1, rle_antisymm k1 k2]
theorem rle_snoc : ∀ {x y : List Nat} {a b : Nat}, rle x y → (x = y → a ≤ b) → rle (x ++ [a]) (y ++ [b])
  | [], [], a, b, _, h => by
    have := h rfl
    rcases Nat.lt_or_eq_of_le this with z | z
    · exact .inl z
    · exact .inr ⟨z, trivial⟩
  | [], _ :: _, _, _, h, _ => h.elim
  | _ :: _, [], _, _, h, _ => h.elim
  | c :: cs, d :: ds, a, b, h, k => by
    rcases h with h | ⟨h, h2⟩
    · exact .inl h
    · exact .inr ⟨h, rle_snoc h2 fun e => k (by rw [h, e])⟩
def keyW (steps : List (S × Int)) (w : List (S × Int)) : List Nat := w.map fun l => steps.idxOf l
theorem keyW_inj {steps : List (S × Int)} : ∀ {w v : List (S × Int)}, (∀ l, l ∈ w → l ∈ steps) → (∀ l, l ∈ v → l ∈ steps) → keyW steps w = keyW steps v → w = v
  | [], [], _, _, _ => rfl
  | [], _ :: _, _, _, h => by cases h
  | _ :: _, [], _, _, h => by cases h
  | a :: as, b :: bs, h1, h2, h => by
    unfold keyW at h
    rw [List.map_cons, List.map_cons] at h
    injection h with e1 e2
    have ha := List.idxOf_lt_length_of_mem (h1 a List.mem_cons_self)
    have hb := List.idxOf_lt_length_of_mem (h2 b List.mem_cons_self)
    have hab : a = b := by
      rw [← List.getElem_idxOf ha, ← List.getElem_idxOf hb]
      simp only [e1]
    rw [hab, keyW_inj (fun l hl => h1 l (List.mem_cons_of_mem _ hl)) (fun l hl => h2 l (List.mem_cons_of_mem _ hl)) e2]
theorem find_first {p : S × Int → Bool} : ∀ {steps : List (S × Int)} {l0 l : S × Int}, steps.find? p = some l0 → l ∈ steps → p l = true → steps.idxOf l0 ≤ steps.idxOf l
  | [], _, _, h, _, _ => by cases h
  | a :: steps, l0, l, h, hl, hp => by
    by_cases z : p a = true
    · rw [List.find?_cons_of_pos z] at h
      cases h
      rw [List.idxOf_cons_self]; omega
    · rw [List.find?_cons_of_neg z] at h
      have hla : a ≠ l := fun e => z (e ▸ hp)
      have hl0 : a ≠ l0 := fun e => z (e ▸ List.find?_some h)
      rw [List.idxOf_cons, List.idxOf_cons, show (a == l) = false from by simpa using hla, show (a == l0) = false from by simpa using hl0, cond_false, cond_false]
      have := find_first h ((List.mem_cons.mp hl).resolve_left fun e => hla e.symm) hp
      omega
/-- rows from one place to another -/
def RowTo (r : Rak) (m q : Int) (w : List (S × Int)) (p : Int) : Prop := (∀ l, l ∈ w → l ∈ stepsL r) ∧ w.foldl (nxR m) q = p
theorem RowTo.cons {r : Rak} {m q p : Int} {l : S × Int} {w : List (S × Int)} : RowTo r m q (l :: w) p ↔ l ∈ stepsL r ∧ RowTo r m (nxR m q l) w p := by
  unfold RowTo
  constructor
  · rintro ⟨h1, h2⟩
    exact ⟨h1 l List.mem_cons_self, fun x hx => h1 x (List.mem_cons_of_mem _ hx), h2⟩
  · rintro ⟨h1, h2, h3⟩
    exact ⟨fun x hx => (List.mem_cons.mp hx).elim (fun e => e ▸ h1) (h2 x), h3⟩
theorem RowTo.snoc {r : Rak} {m q p : Int} {l : S × Int} {w : List (S × Int)} (h : RowTo r m q w p) (hl : l ∈ stepsL r) : RowTo r m q (w ++ [l]) (nxR m p l) :=
  ⟨fun x hx => (List.mem_append.mp hx).elim (h.1 x) (fun hx => by rw [List.mem_singleton] at hx; rw [hx]; exact hl), by rw [List.foldl_append, h.2]; rfl⟩
theorem RowTo.unsnoc {r : Rak} {m q p : Int} {w : List (S × Int)} {k : Nat} (h : RowTo r m q w p) (hk : w.length = k + 1) : ∃ v l y, w = v ++ [l] ∧ v.length = k ∧ l ∈ stepsL r ∧ RowTo r m q v y ∧ p = nxR m y l := by
  rcases List.eq_nil_or_concat w with z | ⟨v, l, z⟩
  · rw [z] at hk; simp at hk
  · rw [List.concat_eq_append] at z
    subst z
    refine ⟨v, l, v.foldl (nxR m) q, rfl, by simpa using hk, h.1 l (by simp), ⟨fun x hx => h.1 x (by simp [hx]), rfl⟩, ?_⟩
    have := h.2
    rw [List.foldl_append] at this
    exact this.symm
theorem nxR_nbr {r : Rak} {m y : Int} {l : S × Int} (hl : l ∈ stepsL r) : nxR m y l ∈ nbrR r m y := mem_nbrR.mpr ⟨l, hl, rfl⟩
theorem nxR_in {m y : Int} {l : S × Int} (hm : 0 < m) : 0 ≤ nxR m y l ∧ nxR m y l < m := ⟨Int.emod_nonneg _ (by omega), Int.emod_lt_of_pos _ hm⟩
theorem RowTo.wkn {r : Rak} {m q : Int} : ∀ {k : Nat} {w : List (S × Int)} {p : Int}, RowTo r m q w p → w.length = k → Wkn (nbrR r m) q k p
  | 0, w, p, h, hk => by
    have : w = [] := List.eq_nil_of_length_eq_zero hk
    subst this
    exact h.2.symm
  | k + 1, w, p, h, hk => by
    obtain ⟨v, l, y, e, hv, hl, hr, hp⟩ := h.unsnoc hk
    exact ⟨y, hr.wkn hv, by rw [hp]; exact nxR_nbr hl⟩
theorem wkn_sym {r : Rak} {m a b : Int} (hm : 0 < m) (ha : 0 ≤ a ∧ a < m) {k : Nat} (h : Wkn (nbrR r m) a k b) : Wkn (nbrR r m) b k a :=
  Wkn.symm (P := fun x => 0 ≤ x ∧ x < m) (fun x y hx hy => nbrR_symm hm hx hy) ha h
theorem wkn_rng {r : Rak} {m a b : Int} (hm : 0 < m) (ha : 0 ≤ a ∧ a < m) {k : Nat} (h : Wkn (nbrR r m) a k b) : 0 ≤ b ∧ b < m :=
  Wkn.inv (P := fun x => 0 ≤ x ∧ x < m) (fun x y _ hy => nbrR_in hm hy) ha h
theorem dst_sym {r : Rak} {m a b : Int} (hm : 0 < m) (ha : 0 ≤ a ∧ a < m) {k : Nat} (h : Dst (nbrR r m) a k b) : Dst (nbrR r m) b k a :=
  ⟨wkn_sym hm ha h.1, fun j hj hw => h.2 j hj (wkn_sym hm (wkn_rng hm ha h.1) hw)⟩
/-- the least one of the shortest rows -/
structure Best (r : Rak) (m q p : Int) (k : Nat) (w : List (S × Int)) : Prop where
  dst : Dst (nbrR r m) q k p
  len : w.length = k
  row : RowTo r m q w p
  min : ∀ v, RowTo r m q v p → v.length = k → rle (keyW (stepsL r) w) (keyW (stepsL r) v)
theorem Best.uniq {r : Rak} {m q p : Int} {j k : Nat} {w v : List (S × Int)} (h : Best r m q p j w) (g : Best r m q p k v) : w = v ∧ j = k := by
  have e : j = k := h.dst.uniq g.dst
  subst e
  exact ⟨keyW_inj h.row.1 g.row.1 (rle_antisymm (h.min v g.row g.len) (g.min w h.row h.len)), rfl⟩
/-- the first laying by which it is nearer gives it -/
theorem greedy_best {r : Rak} {m g : Int} {far : List (Int × Int)} (hB : Bfs (nbrR r m) g far) (hm : 0 < m) (hg : 0 ≤ g ∧ g < m) : ∀ (k : Nat) (q : Int), 0 ≤ q ∧ q < m → dget far q = some (k : Int) → Best r m q g k (greedy (dget far) (nxR m) (stepsL r) k q)
  | 0, q, hq, hd => by
    have e := hB.zero.mp hd
    subst e
    refine ⟨⟨rfl, fun j hj => absurd hj (by omega)⟩, rfl, ⟨(fun l hl => nomatch hl), rfl⟩, fun v _ hv => ?_⟩
    have : v = [] := List.eq_nil_of_length_eq_zero hv
    subst this
    exact rle_refl _
  | k + 1, q, hq, hd => by
    obtain ⟨n, e, hdst⟩ := (hB.val _ _).mp hd
    have : n = k + 1 := by omega
    subst this
    -- who leads nearer
    have hnear : ∀ l, l ∈ stepsL r → Wkn (nbrR r m) g k (nxR m q l) → dget far (nxR m q l) = some (k : Int) := fun l hl hw => by
      refine (hB.val _ _).mpr ⟨k, rfl, hw, fun j hj hj2 => hdst.2 (j + 1) (by omega) ⟨nxR m q l, hj2, ?_⟩⟩
      exact (nbrR_symm hm hq (nxR_nbr hl)).2
    obtain ⟨st0, s1, s2⟩ := ring_near hB hm hg hq hd
    have hs : ((stepsL r).find? (fun st => decide (dget far (nxR m q st) = some (k : Int)))).isSome = true := by
      rw [List.find?_isSome]; exact ⟨st0, s1, by simp [s2]⟩
    obtain ⟨l0, hl0⟩ := Option.isSome_iff_exists.mp hs
    have hp0 := List.find?_some hl0
    rw [decide_eq_true_eq] at hp0
    have hmem := List.mem_of_find?_eq_some hl0
    have ih := greedy_best hB hm hg k (nxR m q l0) (nxR_in hm) hp0
    rw [show greedy (dget far) (nxR m) (stepsL r) (k + 1) q = l0 :: greedy (dget far) (nxR m) (stepsL r) k (nxR m q l0) by rw [greedy, hl0]]
    refine ⟨dst_sym hm hg hdst, by rw [List.length_cons, ih.len], RowTo.cons.mpr ⟨hmem, ih.row⟩, fun v hv hvl => ?_⟩
    cases v with
    | nil => simp at hvl
    | cons l v =>
      rw [RowTo.cons] at hv
      have hvl2 : v.length = k := by simpa using hvl
      have hw : Wkn (nbrR r m) g k (nxR m q l) := wkn_sym hm (nxR_in hm) (hv.2.wkn hvl2)
      have hle := find_first hl0 hv.1 (by simpa using hnear l hv.1 hw)
      show _ < _ ∨ (_ = _ ∧ _)
      rcases Nat.lt_or_eq_of_le hle with z | z
      · exact .inl z
      · have e : l0 = l := by
          have := keyW_inj (steps := stepsL r) (w := [l0]) (v := [l]) (fun x hx => by rw [List.mem_singleton] at hx; rw [hx]; exact hmem) (fun x hx => by rw [List.mem_singleton] at hx; rw [hx]; exact hv.1) (by show [(stepsL r).idxOf l0] = [(stepsL r).idxOf l]; rw [z])
          exact (List.cons.inj this).1
        subst e
        exact .inr ⟨rfl, ih.min v hv.2 hvl2⟩
/-! ### levels with their rows -/
def wput (s : List (Int × List (S × Int)) × List (Int × List (S × Int))) (c : Int × List (S × Int)) : List (Int × List (S × Int)) × List (Int × List (S × Int)) := if dhas s.1 c.1 = true then s else (dput s.1 c.1 c.2, s.2 ++ [c])
structure WInv (le : List (S × Int) → List (S × Int) → Prop) (known : List (Int × List (S × Int))) (pre : List (Int × List (S × Int))) (s : List (Int × List (S × Int)) × List (Int × List (S × Int))) : Prop where
  get : ∀ p w, dget s.1 p = some w ↔ dget known p = some w ∨ (p, w) ∈ s.2
  sub : s.2.Sublist pre
  new : ∀ c, c ∈ s.2 → dget known c.1 = none
  old : ∀ c, c ∈ pre → dget known c.1 = none → ∃ w, (c.1, w) ∈ s.2 ∧ le w c.2
  nd : (keys s.2).Nodup
theorem wput_inv {le : List (S × Int) → List (S × Int) → Prop} (hrefl : ∀ w, le w w) {known : List (Int × List (S × Int))} : ∀ (post pre : List (Int × List (S × Int))) (s : List (Int × List (S × Int)) × List (Int × List (S × Int))), (pre ++ post).Pairwise (fun x y => le x.2 y.2) → WInv le known pre s → WInv le known (pre ++ post) (post.foldl wput s)
  | [], pre, s, _, h => by rw [List.append_nil]; exact h
  | c :: post, pre, s, hp, h => by
    rw [List.foldl_cons, show pre ++ c :: post = (pre ++ [c]) ++ post by simp]
    refine wput_inv hrefl post (pre ++ [c]) (wput s c) (by rw [List.append_assoc]; exact hp) ?_
    have hbef : ∀ x, x ∈ pre → le x.2 c.2 := fun x hx => (List.pairwise_append.mp hp).2.2 x hx c List.mem_cons_self
    unfold wput
    by_cases hd : dhas s.1 c.1 = true
    · rw [if_pos hd]
      refine ⟨h.get, h.sub.trans (List.sublist_append_left _ _), h.new, fun x hx hn => ?_, h.nd⟩
      rcases List.mem_append.mp hx with hx | hx
      · exact h.old x hx hn
      · rw [List.mem_singleton] at hx
        subst hx
        rw [dhas_iff] at hd
        obtain ⟨w, hw⟩ := dget_some hd
        rcases (h.get _ _).mp hw with z | z
        · rw [hn] at z; cases z
        · exact ⟨w, z, hbef _ (h.sub.subset z)⟩
    · rw [if_neg hd]
      rw [Bool.not_eq_true, dhas_false, ← dget_none] at hd
      have hkn : dget known c.1 = none := by
        cases e : dget known c.1 with
        | none => rfl
        | some w => rw [(h.get c.1 w).mpr (.inl e)] at hd; cases hd
      have hns : c.1 ∉ keys s.2 := fun z => by
        obtain ⟨x, hx, e⟩ := List.mem_map.mp z
        have : (c.1, x.2) ∈ s.2 := by rw [← e]; exact hx
        rw [(h.get c.1 x.2).mpr (.inr this)] at hd; cases hd
      refine ⟨fun p w => ?_, List.Sublist.append h.sub (List.Sublist.refl _), fun x hx => ?_, fun x hx hn => ?_, ?_⟩
      · rw [dget_dput]
        by_cases e : p = c.1
        · rw [if_pos e]
          subst e
          constructor
          · intro z; exact .inr (List.mem_append_right _ (by rw [← Option.some.inj z]; exact List.mem_singleton.mpr rfl))
          · rintro (z | z)
            · rw [hkn] at z; cases z
            · rcases List.mem_append.mp z with z | z
              · exact absurd (List.mem_map.mpr ⟨_, z, rfl⟩) hns
              · rw [List.mem_singleton] at z; rw [← z]
        · rw [if_neg e, h.get p w]
          constructor
          · rintro (z | z)
            · exact .inl z
            · exact .inr (List.mem_append_left _ z)
          · rintro (z | z)
            · exact .inl z
            · rcases List.mem_append.mp z with z | z
              · exact .inr z
              · rw [List.mem_singleton] at z; exact absurd (by rw [← z]) e
      · rcases List.mem_append.mp hx with hx | hx
        · exact h.new x hx
        · rw [List.mem_singleton] at hx; rw [hx]; exact hkn
      · rcases List.mem_append.mp hx with hx | hx
        · obtain ⟨w, w1, w2⟩ := h.old x hx hn
          exact ⟨w, List.mem_append_left _ w1, w2⟩
        · rw [List.mem_singleton] at hx
          exact ⟨c.2, by rw [hx]; exact List.mem_append_right _ (List.mem_singleton.mpr rfl), by rw [hx]; exact hrefl _⟩
      · unfold keys at *
        rw [List.map_append]
        refine List.nodup_append.mpr ⟨h.nd, by simp, fun a ha b hb => ?_⟩
        have : b = c.1 := by simpa using hb
        rw [this]
        exact fun e => hns (e ▸ ha)
/-- a level -/
structure LInv (r : Rak) (m : Int) (k : Nat) (L known : List (Int × List (S × Int))) : Prop where
  lv : ∀ p w, (p, w) ∈ L → Best r m 0 p k w
  all : ∀ p, Dst (nbrR r m) 0 k p → ∃ w, (p, w) ∈ L
  asc : L.Pairwise fun x y => rle (keyW (stepsL r) x.2) (keyW (stepsL r) y.2)
  lnd : (keys L).Nodup
  get : ∀ p w, dget known p = some w ↔ ∃ j, j ≤ k ∧ Best r m 0 p j w
  has : ∀ p j, j ≤ k → Dst (nbrR r m) 0 j p → ∃ w, dget known p = some w
theorem linv_zero {r : Rak} {m : Int} : LInv r m 0 [((0 : Int), ([] : List (S × Int)))] [((0 : Int), ([] : List (S × Int)))] := by
  have hb : Best r m 0 0 0 [] := ⟨⟨rfl, fun j hj => absurd hj (by omega)⟩, rfl, ⟨(fun l hl => nomatch hl), rfl⟩, fun v _ hv => by
    have : v = [] := List.eq_nil_of_length_eq_zero hv
    subst this
    exact rle_refl _⟩
  have hz : ∀ p, dget [((0 : Int), ([] : List (S × Int)))] p = if p = 0 then some [] else none := fun p => by
    by_cases e : p = 0
    · subst e; rw [if_pos rfl]; rfl
    · rw [if_neg e]; exact dget_none.mpr (by show p ∉ [(0 : Int)]; simp [e])
  refine ⟨fun p w h => ?_, fun p h => ?_, by simp, by simp [keys], fun p w => ?_, fun p j hj h => ?_⟩
  · rw [List.mem_singleton] at h
    cases h
    exact hb
  · have : p = 0 := h.1
    subst this
    exact ⟨[], List.mem_singleton.mpr rfl⟩
  · rw [hz]
    constructor
    · intro h
      by_cases e : p = 0
      · subst e
        rw [if_pos rfl] at h
        cases h
        exact ⟨0, Nat.le_refl _, hb⟩
      · rw [if_neg e] at h; cases h
    · rintro ⟨j, hj, h⟩
      have : j = 0 := by omega
      subst this
      have e : p = 0 := h.dst.1
      have : w = [] := List.eq_nil_of_length_eq_zero h.len
      rw [if_pos e, this]
  · have : j = 0 := by omega
    subst this
    have e : p = 0 := h.1
    exact ⟨[], by rw [hz, if_pos e]⟩
def cands (r : Rak) (m : Int) (L : List (Int × List (S × Int))) : List (Int × List (S × Int)) := L.flatMap fun x => (stepsL r).map fun l => (nxR m x.1 l, x.2 ++ [l])
theorem steps_idx {r : Rak} (hR : RakOk r) : (stepsL r).Pairwise fun a b => (stepsL r).idxOf a < (stepsL r).idxOf b := by
  have key : ∀ (xs pre : List (S × Int)), (pre ++ xs).Nodup → xs.Pairwise fun a b => (pre ++ xs).idxOf a < (pre ++ xs).idxOf b := by
    intro xs
    induction xs with
    | nil => intro pre _; exact .nil
    | cons a xs ih =>
      intro pre hn
      have h2 := ih (pre ++ [a]) (by rw [List.append_assoc]; exact hn)
      rw [List.append_assoc] at h2
      refine .cons (fun b hb => ?_) h2
      rw [List.nodup_append] at hn
      obtain ⟨n1, n2, n3⟩ := hn
      have ha : a ∉ pre := fun z => n3 a z a List.mem_cons_self rfl
      have hb' : b ∉ pre := fun z => n3 b z b (List.mem_cons_of_mem _ hb) rfl
      have hab : a ≠ b := fun e => (List.nodup_cons.mp n2).1 (e ▸ hb)
      rw [List.idxOf_append, List.idxOf_append, if_neg ha, if_neg hb', List.idxOf_cons_self, List.idxOf_cons, show (a == b) = false from by simpa using hab, cond_false]
      omega
  exact key (stepsL r) [] hR.steps_nd
theorem cands_asc {r : Rak} (hR : RakOk r) {m : Int} {k : Nat} {L known : List (Int × List (S × Int))} (h : LInv r m k L known) : (cands r m L).Pairwise fun x y => rle (keyW (stepsL r) x.2) (keyW (stepsL r) y.2) := by
  have hkey : ∀ (w : List (S × Int)) (l : S × Int), keyW (stepsL r) (w ++ [l]) = keyW (stepsL r) w ++ [(stepsL r).idxOf l] := fun w l => by unfold keyW; rw [List.map_append]; rfl
  have hsame : ∀ w : List (S × Int), ((stepsL r).map fun l => w ++ [l]).Pairwise fun x y => rle (keyW (stepsL r) x) (keyW (stepsL r) y) := fun w => by
    rw [List.pairwise_map]
    refine (steps_idx hR).imp fun {a b} hab => ?_
    rw [hkey, hkey]
    exact rle_snoc (rle_refl _) fun _ => Nat.le_of_lt hab
  have key : ∀ M : List (Int × List (S × Int)), M.Sublist L → (cands r m M).Pairwise fun x y => rle (keyW (stepsL r) x.2) (keyW (stepsL r) y.2) := by
    intro M
    induction M with
    | nil => intro _; exact .nil
    | cons x M ih =>
      intro hs
      have hs2 : M.Sublist L := (List.sublist_cons_self x M).trans hs
      unfold cands
      rw [List.flatMap_cons, List.pairwise_append]
      refine ⟨?_, ih hs2, fun a ha b hb => ?_⟩
      · have := hsame x.2
        rw [List.pairwise_map] at this ⊢
        exact this
      · obtain ⟨l, hl, rfl⟩ := List.mem_map.mp ha
        obtain ⟨y, hy, hb⟩ := List.mem_flatMap.mp hb
        obtain ⟨l2, hl2, rfl⟩ := List.mem_map.mp hb
        dsimp only
        rw [hkey, hkey]
        have hxy := (List.pairwise_cons.mp (h.asc.sublist hs)).1 y hy
        refine rle_snoc hxy fun e => ?_
        exfalso
        have b1 := h.lv x.1 x.2 (hs.subset List.mem_cons_self)
        have b2 := h.lv y.1 y.2 (hs2.subset hy)
        have ew : x.2 = y.2 := keyW_inj b1.row.1 b2.row.1 e
        have ep : x.1 = y.1 := by rw [← b1.row.2, ← b2.row.2, ew]
        have hnd : (keys (x :: M)).Nodup := (hs.map (·.1)).nodup h.lnd
        exact (List.nodup_cons.mp hnd).1 (List.mem_map.mpr ⟨y, hy, ep.symm⟩)
  exact key L (List.Sublist.refl _)
theorem level_next {r : Rak} (hR : RakOk r) {m : Int} (hm : 0 < m) {k : Nat} {L known : List (Int × List (S × Int))} (h : LInv r m k L known) : LInv r m (k + 1) ((cands r m L).foldl wput (known, [])).2 ((cands r m L).foldl wput (known, [])).1 := by
  have hW : WInv (fun a b => rle (keyW (stepsL r) a) (keyW (stepsL r) b)) known ([] ++ cands r m L) ((cands r m L).foldl wput (known, [])) :=
    wput_inv (fun w => rle_refl _) (cands r m L) [] (known, []) (by rw [List.nil_append]; exact cands_asc hR h) ⟨fun p w => by simp, List.Sublist.refl _, fun c hc => (nomatch hc), fun c hc => (nomatch hc), by simp [keys]⟩
  rw [List.nil_append] at hW
  generalize (cands r m L).foldl wput (known, []) = s at hW ⊢
  have h0 : (0 : Int) ≤ 0 ∧ (0 : Int) < m := ⟨Int.le_refl 0, hm⟩
  have hmem : ∀ q w, (q, w) ∈ cands r m L ↔ ∃ p v l, (p, v) ∈ L ∧ l ∈ stepsL r ∧ q = nxR m p l ∧ w = v ++ [l] := fun q w => by
    unfold cands
    rw [List.mem_flatMap]
    constructor
    · rintro ⟨x, hx, hq⟩
      obtain ⟨l, hl, e⟩ := List.mem_map.mp hq
      cases e
      exact ⟨x.1, x.2, l, hx, hl, rfl, rfl⟩
    · rintro ⟨p, v, l, h1, h2, rfl, rfl⟩
      exact ⟨(p, v), h1, List.mem_map.mpr ⟨l, h2, rfl⟩⟩
  -- new places are one laying farther
  have hnone : ∀ q, dget known q = none → ∀ j, j ≤ k → ¬ Wkn (nbrR r m) 0 j q := fun q hq j hj hw => by
    obtain ⟨i, hi, hd⟩ := hw.dst
    obtain ⟨w, hw2⟩ := h.has q i (by omega) hd
    rw [hq] at hw2; cases hw2
  have hnew : ∀ q, Dst (nbrR r m) 0 (k + 1) q → dget known q = none := fun q hq => by
    cases e : dget known q with
    | none => rfl
    | some w =>
      obtain ⟨j, hj, hb⟩ := (h.get q w).mp e
      exact absurd hb.dst.1 (hq.2 j (by omega))
  have hpre : ∀ q y, Dst (nbrR r m) 0 (k + 1) q → Wkn (nbrR r m) 0 k y → q ∈ nbrR r m y → Dst (nbrR r m) 0 k y := fun q y hq hw hn => ⟨hw, fun j hj hw2 => hq.2 (j + 1) (by omega) ⟨y, hw2, hn⟩⟩
  have hbest : ∀ q w, (q, w) ∈ s.2 → Best r m 0 q (k + 1) w := fun q w hq => by
    obtain ⟨p, v, l, h1, h2, h3, h4⟩ := (hmem q w).mp (hW.sub.subset hq)
    have b := h.lv p v h1
    have hn := hW.new _ hq
    have hd : Dst (nbrR r m) 0 (k + 1) q := ⟨⟨p, b.dst.1, by rw [h3]; exact nxR_nbr h2⟩, fun j hj hw => hnone q hn j (by omega) hw⟩
    refine ⟨hd, by rw [h4, List.length_append, b.len]; rfl, by rw [h3, h4]; exact b.row.snoc h2, fun v' hv' hl' => ?_⟩
    obtain ⟨v1, l1, y, e1, hl1, hs1, hr1, hq1⟩ := hv'.unsnoc hl'
    have hyd : Dst (nbrR r m) 0 k y := hpre q y hd (hr1.wkn hl1) (by rw [hq1]; exact nxR_nbr hs1)
    obtain ⟨w2, hw2⟩ := h.all y hyd
    have b2 := h.lv y w2 hw2
    obtain ⟨w3, hw3, hle⟩ := hW.old (q, w2 ++ [l1]) ((hmem _ _).mpr ⟨y, w2, l1, hw2, hs1, hq1, rfl⟩) hn
    have e3 : w3 = w := by
      have g1 := (hW.get q w3).mpr (.inr hw3)
      have g2 := (hW.get q w).mpr (.inr hq)
      rw [g1] at g2
      exact Option.some.inj g2
    rw [e3] at hle
    refine rle_trans hle ?_
    rw [e1]
    show rle (keyW (stepsL r) (w2 ++ [l1])) _
    unfold keyW
    rw [List.map_append, List.map_append]
    exact rle_snoc (b2.min v1 hr1 hl1) fun _ => Nat.le_refl _
  have hall : ∀ q, Dst (nbrR r m) 0 (k + 1) q → ∃ w, (q, w) ∈ s.2 := fun q hq => by
    obtain ⟨y, hy1, hy2⟩ := hq.1
    obtain ⟨w2, hw2⟩ := h.all y (hpre q y hq hy1 hy2)
    obtain ⟨l, hl, e⟩ := mem_nbrR.mp hy2
    obtain ⟨w3, hw3, _⟩ := hW.old (q, w2 ++ [l]) ((hmem _ _).mpr ⟨y, w2, l, hw2, hl, e, rfl⟩) (hnew q hq)
    exact ⟨w3, hw3⟩
  refine ⟨hbest, hall, (cands_asc hR h).sublist hW.sub, hW.nd, fun p w => ?_, fun p j hj hd => ?_⟩
  · rw [hW.get, h.get]
    constructor
    · rintro (⟨j, hj, hb⟩ | hq)
      · exact ⟨j, by omega, hb⟩
      · exact ⟨k + 1, Nat.le_refl _, hbest p w hq⟩
    · rintro ⟨j, hj, hb⟩
      rcases Nat.lt_or_eq_of_le hj with z | z
      · exact .inl ⟨j, by omega, hb⟩
      · subst z
        obtain ⟨w2, hw2⟩ := hall p hb.dst
        rw [(hb.uniq (hbest p w2 hw2)).1]
        exact .inr hw2
  · rcases Nat.lt_or_eq_of_le hj with z | z
    · obtain ⟨w, hw⟩ := h.has p j (by omega) hd
      exact ⟨w, (hW.get p w).mpr (.inl hw)⟩
    · subst z
      obtain ⟨w, hw⟩ := hall p hd
      exact ⟨w, (hW.get p w).mpr (.inr hw)⟩
theorem wput_keys {known : List (Int × List (S × Int))} : ∀ (C : List (Int × List (S × Int))) (s : List (Int × List (S × Int)) × List (Int × List (S × Int))) {U : List Int}, (∀ c, c ∈ C → c.1 ∈ U) → (keys s.1).Nodup → (∀ x, x ∈ keys s.1 → x ∈ U) → (keys (C.foldl wput s).1).Nodup ∧ ∀ x, x ∈ keys (C.foldl wput s).1 → x ∈ U
  | [], s, U, _, h2, h3 => ⟨h2, h3⟩
  | c :: C, s, U, h1, h2, h3 => by
    rw [List.foldl_cons]
    refine wput_keys (known := known) C (wput s c) (fun x hx => h1 x (List.mem_cons_of_mem _ hx)) ?_ ?_
    · unfold wput
      split
      · exact h2
      · exact dput_nodup h2
    · unfold wput
      split
      · exact h3
      · intro x hx
        rcases mem_keys_dput.mp hx with rfl | hx
        · exact h1 c List.mem_cons_self
        · exact h3 x hx
theorem linv_end {r : Rak} {m : Int} {k : Nat} {known : List (Int × List (S × Int))} (h : LInv r m k [] known) : ∀ p n, Wkn (nbrR r m) 0 n p → ∃ j w, dget known p = some w ∧ Best r m 0 p j w := by
  have hno : ∀ x, ¬ Dst (nbrR r m) 0 k x := fun x hx => by obtain ⟨w, hw⟩ := h.all x hx; cases hw
  have hk : ∀ n x, Wkn (nbrR r m) 0 n x → ∃ j, j < k ∧ Wkn (nbrR r m) 0 j x := by
    intro n
    induction n with
    | zero =>
      intro x hx
      rcases Nat.eq_zero_or_pos k with z | z
      · subst z; exact absurd ⟨hx, fun j hj => absurd hj (by omega)⟩ (hno x)
      · exact ⟨0, z, hx⟩
    | succ n ih =>
      rintro x ⟨y, hy, hxy⟩
      obtain ⟨j, hj, hw⟩ := ih y hy
      rcases Nat.lt_or_ge (j + 1) k with z | z
      · exact ⟨j + 1, z, y, hw, hxy⟩
      · have e : j + 1 = k := by omega
        have hwk : Wkn (nbrR r m) 0 k x := by rw [← e]; exact ⟨y, hw, hxy⟩
        obtain ⟨i, hi, hd⟩ := hwk.dst
        rcases Nat.lt_or_eq_of_le hi with q | q
        · exact ⟨i, q, hd.1⟩
        · subst q; exact absurd hd (hno x)
  intro p n hw
  obtain ⟨j, hj, hwj⟩ := hk n p hw
  obtain ⟨i, hi, hd⟩ := hwj.dst
  obtain ⟨w, hw2⟩ := h.has p i (by omega) hd
  obtain ⟨j2, _, hb⟩ := (h.get p w).mp hw2
  exact ⟨j2, w, hw2, hb⟩
/-- what the levels are at their end -/
structure Ways (r : Rak) (m : Int) (known : List (Int × List (S × Int))) : Prop where
  nd : (keys known).Nodup
  has : ∀ x, x ∈ keys known ↔ ∃ n, Wkn (nbrR r m) 0 n x
  get : ∀ p w, dget known p = some w → ∃ j, Best r m 0 p j w
theorem ways_of {r : Rak} {m : Int} {k : Nat} {known : List (Int × List (S × Int))} (h : LInv r m k [] known) (hn : (keys known).Nodup) : Ways r m known := by
  refine ⟨hn, fun x => ⟨fun hx => ?_, fun ⟨n, hw⟩ => ?_⟩, fun p w hw => ?_⟩
  · obtain ⟨w, hw⟩ := dget_some hx
    obtain ⟨j, _, hb⟩ := (h.get x w).mp hw
    exact ⟨j, hb.dst.1⟩
  · obtain ⟨j, w, hw2, _⟩ := linv_end h x n hw
    exact List.mem_map.mpr ⟨_, dget_mem hw2, rfl⟩
  · obtain ⟨j, _, hb⟩ := (h.get p w).mp hw
    exact ⟨j, hb⟩
/-! ### rows of so many layings -/
theorem sum_nonneg : ∀ {xs : List Int}, (∀ x, x ∈ xs → 0 ≤ x) → 0 ≤ xs.sum
  | [], _ => by simp
  | x :: xs, h => by
    have := sum_nonneg fun y hy => h y (List.mem_cons_of_mem _ hy)
    have := h x List.mem_cons_self
    rw [List.sum_cons]; omega
/-- the first one of some rows whose number is reached -/
def pickR (c : Int → Int) : List ((S × Int) × Int) → Int → Option (((S × Int) × Int) × Int)
  | [], _ => none
  | q :: qs, l => if c q.2 ≤ l then pickR c qs (l - c q.2) else some (q, l)
theorem pickR_some {c : Int → Int} (hc : ∀ x, 0 ≤ c x) : ∀ {L : List ((S × Int) × Int)} {l : Int}, 0 ≤ l → l < (L.map fun q => c q.2).sum → ∃ q l' pre post, L = pre ++ q :: post ∧ pickR c L l = some (q, l') ∧ l = (pre.map fun q => c q.2).sum + l' ∧ 0 ≤ l' ∧ l' < c q.2
  | [], l, h0, h1 => by simp at h1; omega
  | q :: L, l, h0, h1 => by
    unfold pickR
    by_cases z : c q.2 ≤ l
    · rw [List.map_cons, List.sum_cons] at h1
      obtain ⟨p, l', pre, post, e1, e2, e3, e4, e5⟩ := pickR_some hc (L := L) (l := l - c q.2) (by omega) (by omega)
      exact ⟨p, l', q :: pre, post, by rw [e1]; rfl, by rw [if_pos z]; exact e2, by rw [List.map_cons, List.sum_cons]; omega, e4, e5⟩
    · exact ⟨q, l, [], L, rfl, by rw [if_neg z], by simp, h0, by omega⟩
theorem pickR_at {c : Int → Int} (hc : ∀ x, 0 ≤ c x) : ∀ (pre : List ((S × Int) × Int)) (q : (S × Int) × Int) (post : List ((S × Int) × Int)) (l : Int), 0 ≤ l → l < c q.2 → pickR c (pre ++ q :: post) ((pre.map fun q => c q.2).sum + l) = some (q, l)
  | [], q, post, l, h0, h1 => by
    rw [List.nil_append]; unfold pickR
    simp only [List.map_nil, List.sum_nil, Int.zero_add]
    rw [if_neg (by omega)]
  | p :: pre, q, post, l, h0, h1 => by
    rw [List.cons_append]; unfold pickR
    have hs := sum_nonneg (xs := pre.map fun q => c q.2) fun x hx => by
      rw [List.mem_map] at hx; obtain ⟨w, _, rfl⟩ := hx; exact hc _
    rw [List.map_cons, List.sum_cons, if_pos (by omega), show c p.2 + (pre.map fun q => c q.2).sum + l - c p.2 = (pre.map fun q => c q.2).sum + l by omega]
    exact pickR_at hc pre q post l h0 h1
theorem rgS_down (n : Nat) : rgS ((n : Int) - 1) (-1) (-1) = (List.range n).map fun i => ((n : Int) - 1 - (i : Nat)) := by
  unfold rgS
  have : (Builtin.Range.rangeSize ((n : Int) - 1) (-1) (-1)).toNat = n := by
    rw [PySem.W.rangeSize_downNat]; omega
  rw [this]
  apply List.map_congr_left
  intro i _
  omega
theorem whl_pick {c : Int → Int} : ∀ (L : List ((S × Int) × Int)) (l : Int) (N : Nat) (q : (S × Int) × Int) (l' : Int), L.length < N → L.length ≤ 100000 → pickR c L l = some (q, l') →
    (Out.whl (σ := Int × (List (((S × Int) × Int × Int)))) (fun s26 =>
    (Out.get (pix s26.2 (0 : Int))).bind fun x29 =>
    Out.ok (decide (x29.2.2 ≤ s26.1))) (fun s26 =>
    (Out.get (pix s26.2 (0 : Int))).bind fun x30 =>
    (Out.ok (s26.1 - x30.2.2)).bind fun left31 =>
    (Out.guard (0 ≤ (0 : Int))).bind fun _ =>
    (Out.get (s26.2[((0 : Int)).toNat]?)).bind fun x34 =>
    (Out.guard ((s26.2).length ≤ LIM)).bind fun _ =>
    (Out.ok (s26.2.eraseIdx ((0 : Int)).toNat)).bind fun rows36 =>
    Out.ok (left31, rows36)) N (l, L.map fun q => (q.1, q.2, c q.2))).yes fun s => s.1 = l' ∧ ∃ rest, s.2 = (q.1, q.2, c q.2) :: rest
  | [], l, N, q, l', _, _, h => by cases h
  | p :: L, l, N + 1, q, l', hN, hL, h => by
    unfold Out.whl
    have hp0 : ∀ xs : List ((S × Int) × Int × Int), pix ((p.1, p.2, c p.2) :: xs) 0 = some (p.1, p.2, c p.2) := fun xs => pix_nat (i := 0) rfl
    rw [List.map_cons]
    dsimp only
    rw [Out.bind_get (hp0 _), Out.bind_ok]
    unfold pickR at h
    by_cases z : c p.2 ≤ l
    · rw [if_pos z] at h
      rw [if_pos (by simpa using z), Out.bind_get (hp0 _), Out.bind_ok, Out.bind_guard (by omega), Out.bind_get (show ((p.1, p.2, c p.2) :: L.map fun q => (q.1, q.2, c q.2))[((0 : Int)).toNat]? = some (p.1, p.2, c p.2) from rfl)]
      rw [List.length_cons] at hN hL
      rw [Out.bind_guard (by rw [List.length_cons, List.length_map]; show _ ≤ 16777216; omega), Out.bind_ok, Out.bind_ok]
      exact whl_pick L (l - c p.2) N q l' (by omega) (by omega) h
    · rw [if_neg z] at h
      cases h
      rw [if_neg (by simpa using z)]
      exact Out.yes_ok ⟨rfl, _, rfl⟩
theorem RakOk.steps_few2 {r : Rak} (hR : RakOk r) : (stepsL r).length ≤ 2000 := by
  unfold stepsL
  rw [(psort_perm _).length_eq]
  have : ∀ hs : List (S × Rul), (∀ p, p ∈ hs → RulOk p.2) → (stepsU hs).length ≤ 300 * hs.length := by
    intro hs
    induction hs with
    | nil => intro _; simp [stepsU]
    | cons p hs ih =>
      intro h
      have := ih fun q hq => h q (List.mem_cons_of_mem _ hq)
      unfold stepsU at this ⊢
      rw [List.flatMap_cons, List.length_append, List.length_append, List.length_map, List.length_map, List.length_cons]
      have h12 := (h p List.mem_cons_self).hi
      have hs2 := spansL_len p.2.marks
      have : p.2.marks.length * p.2.marks.length ≤ 12 * 12 := Nat.mul_le_mul h12 h12
      omega
  have h1 := this r.held hR.ru
  have := hR.le
  omega
/-! ### k66 -/
theorem pre_cases {α : Type} : ∀ {p1 p2 s1 s2 : List α} {a b : α}, p1 ++ a :: s1 = p2 ++ b :: s2 → (p1 = p2 ∧ a = b) ∨ (∃ m, p2 = p1 ++ a :: m) ∨ (∃ m, p1 = p2 ++ b :: m)
  | [], [], s1, s2, a, b, h => by
    rw [List.nil_append, List.nil_append] at h
    exact .inl ⟨rfl, (List.cons.inj h).1⟩
  | [], y :: p2, s1, s2, a, b, h => by
    rw [List.nil_append, List.cons_append] at h
    exact .inr (.inl ⟨p2, by rw [(List.cons.inj h).1]; rfl⟩)
  | x :: p1, [], s1, s2, a, b, h => by
    rw [List.nil_append, List.cons_append] at h
    exact .inr (.inr ⟨p1, by rw [(List.cons.inj h).1]; rfl⟩)
  | x :: p1, y :: p2, s1, s2, a, b, h => by
    rw [List.cons_append, List.cons_append] at h
    obtain ⟨h1, h2⟩ := List.cons.inj h
    rcases pre_cases h2 with ⟨z1, z2⟩ | ⟨m, z⟩ | ⟨m, z⟩
    · exact .inl ⟨by rw [h1, z1], z2⟩
    · exact .inr (.inl ⟨m, by rw [← h1, z]; rfl⟩)
    · exact .inr (.inr ⟨m, by rw [h1, z]; rfl⟩)
theorem alB_row {row : List (S × Int)} (h : row.length ≤ LIM) : alB 2 ((eL (eP eZ eI)) row) = true := by
  show (decide ((row.map (eP eZ eI)).length ≤ LIM) && (row.map (eP eZ eI)).all (alB 1)) = true
  rw [List.length_map]
  simp only [Bool.and_eq_true, decide_eq_true_eq, List.all_eq_true, List.mem_map]
  refine ⟨h, ?_⟩
  rintro d ⟨n, _, rfl⟩
  rfl
/-! ### k08 -/
theorem isnum_i {v a b : Int} (h1 : a ≤ v) (h2 : v ≤ b) : m_is_number_n (.i v) a b = true := by unfold m_is_number_n; simp; exact ⟨h1, h2⟩
theorem isnum_f {v a b : Int} (h : v < a ∨ b < v) : m_is_number_n (.i v) a b = false := by
  cases hh : m_is_number_n (.i v) a b with
  | false => rfl
  | true => unfold m_is_number_n at hh; simp at hh; omega
/-- the marks of both rulers -/
def bothL (a b : List Int) (sh : Int) : List Int := isort ((dmk ((dmk (a.map fun x => (x, true))) ++ (dmk (b.map fun x => (x + sh, true))))).map (·.1))
theorem mem_bothL {a b : List Int} {sh x : Int} : x ∈ bothL a b sh ↔ x ∈ a ∨ ∃ y, y ∈ b ∧ x = y + sh := by
  have hk : ∀ ps qs : List (Int × Bool), keys (ps ++ qs) = keys ps ++ keys qs := fun ps qs => by unfold keys; rw [List.map_append]
  unfold bothL
  rw [mem_isort]
  show x ∈ keys (dmk _) ↔ _
  rw [mem_keys_dmk, hk, List.mem_append, mem_keys_dmk, mem_keys_dmk]
  unfold keys
  rw [List.map_map, List.map_map, List.mem_map, List.mem_map]
  constructor
  · rintro (⟨y, h, rfl⟩ | ⟨y, h, rfl⟩)
    · exact .inl h
    · exact .inr ⟨y, h, rfl⟩
  · rintro (h | ⟨y, h, rfl⟩)
    · exact .inl ⟨x, h, rfl⟩
    · exact .inr ⟨y, h, rfl⟩
theorem bothL_lt (a b : List Int) (sh : Int) : (bothL a b sh).Pairwise (· < ·) := isort_lt (dmk_nodup _)
theorem bothL_len (a b : List Int) (sh : Int) : (bothL a b sh).length ≤ a.length + b.length := by
  unfold bothL
  rw [isort_length, List.length_map]
  have h1 := dmk_len ((dmk (a.map fun x => (x, true))) ++ (dmk (b.map fun x => (x + sh, true))))
  rw [List.length_append] at h1
  have h2 := dmk_len (a.map fun x => (x, true))
  have h3 := dmk_len (b.map fun x => (x + sh, true))
  rw [List.length_map] at h2 h3
  omega
theorem spans_at_ok {one other : Rul} (h1 : RulOk one) (h2 : RulOk other) (sh : Int) : m_spans_at one other sh = .ok (spansL (bothL one.marks other.marks sh)) := by
  have a1 := h1.hi
  have a2 := h2.hi
  have b1 := dmk_len (one.marks.map fun x => (x, true))
  have b2 := dmk_len (other.marks.map fun x => (x + sh, true))
  rw [List.length_map] at b1 b2
  unfold m_spans_at
  rw [show m_Ruler_marks one = one.marks from rfl, show m_Ruler_marks other = other.marks from rfl]
  rw [Out.bind_guard (by show _ ≤ 1000000; omega), Out.bind_guard (by show _ ≤ 1000000; omega), Out.bind_ok]
  show ((m_spread_of_l (bothL one.marks other.marks sh)).bind _) = _
  have := bothL_len one.marks other.marks sh
  rw [show m_spread_of_l = m_spread_of from rfl, spread_ok (by omega), Out.bind_ok]
  rfl
/-- all differences of two different numbers -/
def diffL (L : List Int) : List Int := L.flatMap fun x => (L.filter fun y => !decide (y = x)).map fun y => if x - y < 0 then -(x - y) else x - y
theorem mem_diffL {L : List Int} {d : Int} : d ∈ diffL L ↔ ∃ x y, x ∈ L ∧ y ∈ L ∧ x < y ∧ d = y - x := by
  unfold diffL
  rw [List.mem_flatMap]
  constructor
  · rintro ⟨x, hx, hd⟩
    rw [List.mem_map] at hd
    obtain ⟨y, hy, rfl⟩ := hd
    rw [List.mem_filter] at hy
    have hne : ¬ y = x := by simpa using hy.2
    by_cases h : x - y < 0
    · rw [if_pos h]; exact ⟨x, y, hx, hy.1, by omega, by omega⟩
    · rw [if_neg h]; exact ⟨y, x, hy.1, hx, by omega, by omega⟩
  · rintro ⟨x, y, hx, hy, hlt, rfl⟩
    refine ⟨x, hx, List.mem_map.mpr ⟨y, List.mem_filter.mpr ⟨hy, ?_⟩, ?_⟩⟩
    · simp; omega
    · rw [if_pos (by omega)]; omega
theorem different_mem {xs : List Int} {d : Int} : d ∈ m_law_different xs ↔ d ∈ xs := by
  unfold m_law_different
  rw [mem_isort]
  show d ∈ keys (dmk _) ↔ _
  rw [mem_keys_dmk]
  unfold keys
  rw [List.map_map, List.mem_map]
  exact ⟨fun ⟨y, h, e⟩ => by rw [← e]; exact h, fun h => ⟨d, h, rfl⟩⟩
theorem different_lt (xs : List Int) : (m_law_different xs).Pairwise (· < ·) := isort_lt (dmk_nodup _)
theorem diff_spans (a b : List Int) (sh : Int) : m_law_different (diffL (a ++ b.map fun x => x + sh)) = spansL (bothL a b sh) := by
  refine sorted_ext (different_lt _) (spansL_lt _) fun d => ?_
  rw [different_mem, mem_diffL, mem_spansL, mem_spreadL]
  have hm : ∀ x, x ∈ a ++ b.map (fun x => x + sh) ↔ x ∈ bothL a b sh := fun x => by
    rw [mem_bothL, List.mem_append, List.mem_map]
    exact ⟨fun h => h.imp id fun ⟨y, h1, h2⟩ => ⟨y, h1, h2.symm⟩, fun h => h.imp id fun ⟨y, h1, h2⟩ => ⟨y, h1, h2.symm⟩⟩
  constructor
  · rintro ⟨x, y, hx, hy, hlt, rfl⟩
    rw [hm] at hx hy
    obtain ⟨i, hi⟩ := List.getElem?_of_mem hx
    obtain ⟨j, hj⟩ := List.getElem?_of_mem hy
    refine ⟨i, j, x, y, ?_, hi, hj, rfl⟩
    rcases Nat.lt_or_ge i j with z | z
    · exact z
    · exfalso
      rcases Nat.lt_or_eq_of_le z with z | z
      · have := pairwise_get (bothL_lt a b sh) hj hi z; omega
      · subst z; rw [hi] at hj; have := Option.some.inj hj; omega
  · rintro ⟨i, j, x, y, hij, hi, hj, rfl⟩
    exact ⟨x, y, (hm x).mpr (List.mem_of_getElem? hi), (hm y).mpr (List.mem_of_getElem? hj), pairwise_get (bothL_lt a b sh) hi hj hij, rfl⟩
theorem joint_ok {one other : Rul} (h1 : RulOk one) (h2 : RulOk other) (sh : Int) : m_law_joint one other sh = .ok (spansL (bothL one.marks other.marks sh)) := by
  have a1 := h1.hi
  have a2 := h2.hi
  apply Out.yes.eq
  unfold m_law_joint
  rw [show m_Ruler_marks one = one.marks from rfl, show m_Ruler_marks other = other.marks from rfl]
  rw [Out.bind_guard (by show _ ≤ 16777216; rw [List.length_map]; omega), Out.bind_ok, Out.bind_ok]
  obtain ⟨L, hL⟩ : ∃ L, L = one.marks ++ other.marks.map (fun x => x + sh) := ⟨_, rfl⟩
  rw [← hL]
  have hl : L.length ≤ 24 := by rw [hL, List.length_append, List.length_map]; omega
  refine Out.yes_bind (Out.fold_yes (fun (pre : List Int) (s : List Int) => s = pre.flatMap (fun x => (L.filter fun y => !decide (y = x)).map fun y => if x - y < 0 then -(x - y) else x - y) ∧ s.length ≤ 24 * pre.length) _ _ ⟨rfl, by simp⟩ fun pre x post s hp hI => ?_) fun s hI => ?_
  · obtain ⟨i1, i2⟩ := hI
    have hpl : L.length = pre.length + (post.length + 1) := by rw [hp]; simp
    have hf := List.length_filter_le (fun y => !decide (y = x)) L
    rw [Out.bind_guard (by show _ ≤ 16777216; rw [List.length_map]; omega), Out.bind_ok]
    refine Out.yes_ok ⟨by rw [i1, List.flatMap_append, List.flatMap_cons, List.flatMap_nil, List.append_nil], ?_⟩
    rw [List.length_append, List.length_map, List.length_append, List.length_singleton]
    omega
  · refine Out.yes_ok ?_
    rw [hI.1, ← diff_spans, hL]
    rfl
theorem maxI_some : ∀ (x : Int) (xs : List Int), ∃ m, maxI (x :: xs) = some m := fun x xs => ⟨_, rfl⟩
theorem idxI_some {k : Int} : ∀ {xs : List Int}, k ∈ xs → ∃ j, idxI k xs = some j
  | x :: xs, h => by
    by_cases e : x = k
    · exact ⟨0, by unfold idxI; rw [if_pos e]⟩
    · rcases List.mem_cons.mp h with z | z
      · exact absurd z.symm e
      · obtain ⟨j, hj⟩ := idxI_some z
        exact ⟨j + 1, by unfold idxI; rw [if_neg e, hj]; rfl⟩
/-- how many distances there are, shift by shift -/
def cntS (one other : Rul) (lo hi : Int) : List Int := (rgI lo (hi + 1)).map fun x => ((spansL (bothL one.marks other.marks x)).length : Int)
theorem shift_ok {one other : Rul} (h1 : RulOk one) (h2 : RulOk other) {lo hi : Int} (l0 : -300 ≤ lo) (l1 : lo ≤ hi) (l2 : hi ≤ 300) : ∃ m j, maxI (cntS one other lo hi) = some m ∧ idxI m (cntS one other lo hi) = some j ∧ j < (cntS one other lo hi).length ∧ m_best_shift one other lo hi = .ok (lo + (j : Int)) := by
  obtain ⟨m, hm⟩ : ∃ m, maxI (cntS one other lo hi) = some m := by
    unfold cntS
    rw [rgI_cons (by omega), List.map_cons]
    exact maxI_some _ _
  obtain ⟨j, hj⟩ := idxI_some (maxI_spec hm).1
  refine ⟨m, j, hm, hj, (List.getElem?_eq_some_iff.mp (idxI_spec hj).1).1, ?_⟩
  unfold m_best_shift
  rw [isnum_t (by omega) (by omega), isnum_t l1 l2]
  rw [if_neg (by decide), Out.bind_guard (by constructor <;> omega), Out.bind_guard (by constructor <;> omega), Out.bind_guard (by rw [rgI_length]; show _ ≤ 16777216; omega)]
  rw [Out.compS_unit (o := fun x => some ((spansL (bothL one.marks other.marks x)).length : Int)) _ _ fun x _ => by rw [spans_at_ok h1 h2]; rfl]
  rw [Out.bind_ok, List.nil_append, show ((rgI lo (hi + 1)).filterMap fun x => some ((spansL (bothL one.marks other.marks x)).length : Int)) = cntS one other lo hi by unfold cntS; rw [← List.filterMap_eq_map]; rfl]
  dsimp only
  rw [Out.bind_get hm, Out.bind_get hj]
theorem loop_const {σ α ρ : Type} {f : σ → α → Out (Rt σ ρ)} {s : σ} : ∀ (xs : List α), (∀ x, x ∈ xs → f s x = .ok (.nx s)) → Out.loop f xs s = .ok (.nx s)
  | [], _ => rfl
  | x :: xs, h => by
    rw [Out.loop_cons, h x List.mem_cons_self, Out.bind_ok]
    exact loop_const xs fun y hy => h y (List.mem_cons_of_mem _ hy)
theorem alB_ints {xs : List Int} (h : xs.length ≤ LIM) : alB 1 ((eL eI) xs) = true := by
  show (decide ((xs.map eI).length ≤ LIM) && (xs.map eI).all (alB 0)) = true
  rw [List.length_map]
  simp only [Bool.and_eq_true, decide_eq_true_eq, List.all_eq_true, List.mem_map]
  refine ⟨h, ?_⟩
  rintro d ⟨n, _, rfl⟩
  rfl
theorem law_true (ns : List Int) : m_law ns = .ok true := by
  apply Out.yes.eq
  unfold m_law
  refine Out.yes_bind (ruler_yes (by omega) (by omega) (by omega) (by omega) _) fun r2 hA => ?_
  refine Out.yes_bind (take_yes (by omega) (by omega) _) fun r3 h3 => ?_
  obtain ⟨w, hw, hwm⟩ := pix_some (xs := [(10 : Int), (300 : Int)]) h3.1 (by simp; omega)
  refine Out.yes_get hw ?_
  have hw2 : w = 10 ∨ w = 300 := by simpa using hwm
  refine Out.yes_bind (ruler_yes (by omega) (by omega) (by omega) (by omega) _) fun r5 hB => ?_
  refine Out.yes_let (Out.yes_let ?_)
  have h1 := hA.ok
  have h2 := hB.ok
  have a1 := h1.hi
  have a2 := h2.hi
  have hbl : ∀ sh, (spansL (bothL r2.1.marks r5.1.marks sh)).length ≤ 1000 := fun sh => by
    have e1 := spansL_len (bothL r2.1.marks r5.1.marks sh)
    have e2 := bothL_len r2.1.marks r5.1.marks sh
    have : (bothL r2.1.marks r5.1.marks sh).length * (bothL r2.1.marks r5.1.marks sh).length ≤ 24 * 24 := Nat.mul_le_mul (by omega) (by omega)
    omega
  refine Out.yes_bind (Out.loop_yes (fun _ _ => True) (fun _ => False) _ _ trivial fun pre x post s hp _ => ?_) fun t ht => ?_
  · refine Out.yes_bind (take_yes (by omega) (by omega) _) fun r11 h11 => ?_
    refine Out.yes_bind (take_yes (by omega) (by omega) _) fun r12 h12 => ?_
    refine Out.yes_bind (take_yes (by omega) (by omega) _) fun r13 h13 => ?_
    obtain ⟨sh, hs, hsm⟩ := pix_some (xs := [r11.1 - 300, r12.1 - 20]) h13.1 (by simp; omega)
    refine Out.yes_get hs ?_
    have hs2 : sh = r11.1 - 300 ∨ sh = r12.1 - 20 := by simpa using hsm
    have hj : m_joint_spans r2.1 r5.1 sh = .ok (spansL (bothL r2.1.marks r5.1.marks sh)) := by
      unfold m_joint_spans
      rw [isnum_t (by omega) (by omega), if_neg (by decide), spans_at_ok h1 h2, Out.bind_ok]
    rw [hj, Out.bind_ok, joint_ok h1 h2, Out.bind_ok, Out.bind_guard ⟨rfl, alB_ints (by have := hbl sh; show _ ≤ 16777216; omega)⟩]
    exact Out.yes_ifF rfl (Out.yes_ok trivial)
  · cases t with
    | rt v => exact ht.elim
    | nx s9 =>
      dsimp only
      refine Out.yes_bind (take_yes (by omega) (by omega) _) fun r18 h18 => ?_
      rw [Out.bind_ok]
      refine Out.yes_bind (take_yes (by omega) (by omega) _) fun r20 h20 => ?_
      rw [Out.bind_ok]
      obtain ⟨lo, hlo⟩ : ∃ lo, lo = r18.1 - 30 := ⟨_, rfl⟩
      obtain ⟨hi, hhi⟩ : ∃ hi, hi = lo + r20.1 := ⟨_, rfl⟩
      rw [← hlo, ← hhi]
      rw [Out.bind_guard (by constructor <;> omega), Out.bind_guard (by constructor <;> omega), Out.bind_guard (by rw [rgI_length]; show _ ≤ 16777216; omega)]
      rw [Out.compS_unit (o := fun x => some ((spansL (bothL r2.1.marks r5.1.marks x)).length : Int)) _ _ fun x _ => by rw [joint_ok h1 h2]; rfl]
      rw [Out.bind_ok, List.nil_append, show ((rgI lo (hi + 1)).filterMap fun x => some ((spansL (bothL r2.1.marks r5.1.marks x)).length : Int)) = cntS r2.1 r5.1 lo hi by unfold cntS; rw [← List.filterMap_eq_map]; rfl]
      obtain ⟨m, j, q1, q2, _, q3⟩ := shift_ok h1 h2 (lo := lo) (hi := hi) (by omega) (by omega) (by omega)
      dsimp only
      rw [q3, Out.bind_ok, Out.bind_get q1, Out.bind_get q2, Out.bind_guard ⟨rfl, rfl⟩]
      refine Out.yes_ifF rfl ?_
      rw [loop_const _ fun z hz => by
        have hno : m_best_shift_n r2.1 r5.1 z.1 (IB.i z.2) = .ex ⟨6, []⟩ := by
          unfold m_best_shift_n
          simp only [List.mem_cons, List.not_mem_nil, or_false] at hz
          rcases hz with rfl | rfl | rfl | rfl
          · dsimp only
            rw [isnum_i (by omega) (by omega)]
            show ((Out.ok (!(m_is_number_n (.i 2) 3 300))).bind _) = _
            rw [isnum_f (.inl (by omega))]; rfl
          · dsimp only
            rw [isnum_f (.inl (by omega))]; rfl
          · dsimp only
            rw [isnum_i (by omega) (by omega)]
            show ((Out.ok (!(m_is_number_n (.i 301) 0 300))).bind _) = _
            rw [isnum_f (.inr (by omega))]; rfl
          · rfl
        rw [hno]
        rfl]
      rw [Out.bind_ok]
      dsimp only
      rw [loop_const _ fun z hz => by
        have hno : m_joint_spans_n r2.1 r5.1 z = .ex ⟨6, []⟩ := by
          unfold m_joint_spans_n
          simp only [List.mem_cons, List.not_mem_nil, or_false] at hz
          rcases hz with rfl | rfl | rfl
          · rw [isnum_f (.inl (by omega))]; rfl
          · rw [isnum_f (.inr (by omega))]; rfl
          · rfl
        rw [hno]
        rfl]
      rw [Out.bind_ok]
      dsimp only
      obtain ⟨m1, j1, _, _, c1, d1⟩ := shift_ok h1 h2 (lo := 300) (hi := 300) (by omega) (by omega) (by omega)
      obtain ⟨m2, j2, _, _, c2, d2⟩ := shift_ok h1 h2 (lo := -300) (hi := -300) (by omega) (by omega) (by omega)
      have e1 : j1 = 0 := by unfold cntS at c1; rw [List.length_map, rgI_length] at c1; omega
      have e2 : j2 = 0 := by unfold cntS at c2; rw [List.length_map, rgI_length] at c2; omega
      subst e1 e2
      rw [d1, Out.bind_ok, d2]
      exact Out.yes_ok rfl
local macro_rules | `(tactic| walk_at "vis") => `(tactic| first | exact .inl rfl | exact .inr (.inl rfl) | exact .inr (.inr rfl) | exact .inr rfl)


section
variable {P : Program} {w : World} {K : PySem.W.Frag} {mg : Str → Option Value} {base : Heap} {cx : Nat → Addr} {C_Ruler : Addr} {C_Rack : Addr}
theorem mw_popLt {X : Cy} {ds : List D} {i : Nat} {d : D} {Kt : D → List D → Prop} (hi : ds[i]? = some d) (hlt2 : i < LIM) (k : Kt d (ds.eraseIdx i)) : MutW X "list.pop" ds [.int (i : Nat)] Kt := fun F H p vs us hp hf ex h1 h2 => by
  obtain ⟨v, u', rfl, h3, h4⟩ := h2
  cases (show u' = [] from h4)
  cases (show v = .int (i : Nat) from h3)
  obtain ⟨w, k1, k2⟩ := h1.get hi
  have hlt : i < vs.length := (List.getElem?_eq_some_iff.mp k1).1
  have hb : (i : Int) < 2 ^ 63 := by
    have : (LIM : Int) < 2 ^ 63 := by decide
    omega
  refine ⟨_, mt_popAt, p, vs, (i : Int), i, w, rfl, rfl, hp, by omega, hb, ?_, k1, vs.eraseIdx i, d, ds.eraseIdx i, rfl, k2, h1.eraseIdx i, k⟩
  unfold seqIndex?
  simp
  omega
/-- _law_take, as a plain function -/
theorem eqD_lst0 (ns : List Int) : eqD (.lst (ns.map D.int)) (.lst []) = ns.isEmpty := by
  cases ns with
  | nil => rfl
  | cons n ns => rfl
theorem okD_ints0 (ns : List Int) : okD 1 (.lst (ns.map D.int)) := (eqc_lst eqc_int).ok ns
theorem ok_law_take {f : Addr} {fd : FuncData} (F : Fun K "_law_take" "_law_take" s_law_take f fd) (B : Bn mg) : FnOk P w K mg base (L2.CX P w) 3 f fd ["_law_box", "_law_many"] (spD K (FB (A := Int) (R := Int) (fun a => [eI a]) (fun v => .sh (eI v)) (fun a => m_law_take a))) := by
  refine def_ok F sc_law_take (fun ds G post px h => ?_) (fun cdv A outer s H E F0 T hr ds G post px h tk hp => ?_)
  · obtain ⟨_, _, _, _, _, _, rfl, _⟩ := h; rfl
  obtain ⟨m, G0, b, g, ⟨ns, st⟩, hne, rfl, rfl, h⟩ := h
  unfold m_law_take at h
  dsimp only at h
  obtain ⟨⟨hm0, hm1⟩, h⟩ := Out.gd h
  have nd := sc_law_take.nd
  refine wb_env [.sh (.adr b), .sh (.int m), .no] rfl ?_
  refine wb_cons (ws_if ?_)
  refine wt_cmp (nomark _) ?_
  refine we_ix (fun _ _ => rfl) ?_
  refine we_var 0 rfl (by walk_at "vis") rfl ?_
  refine we_int ?_
  refine ⟨_, _, .inr ⟨b, rfl, bxG_b⟩, .inl rfl, ?_⟩
  refine ixw_lst (d := .adr g) rfl ?_
  refine we_lst (wa_nil ⟨by decide, ?_⟩)
  refine ⟨_, _, .inr ⟨g, rfl, bxG_g hne⟩, .inl rfl, ?_⟩
  refine opw_eqD (n := 1) hr.units (okD_ints0 ns) (okD_ints0 []) (by decide) ?_
  refine ⟨_, rfl, fun hd => ?_, fun hd => ?_⟩
  · have e0 : ns = [] := by
      have := (eqD_lst0 ns).symm.trans hd
      cases ns with
      | nil => rfl
      | cons n ns => cases this
    subst e0
    refine wb_cons (ws_setG ?_)
    refine we_bin ?_
    refine we_t1 (x := "int") (id := "int") rfl B.int bt_int ?_
    refine we_bin ?_
    refine we_ix (fun _ _ => rfl) ?_
    refine we_var 0 rfl (by walk_at "vis") rfl ?_
    refine we_int ?_
    refine ⟨_, _, .inr ⟨b, rfl, bxG_b⟩, .inl rfl, ?_⟩
    refine ixw_lst (d := .int st) rfl ?_
    refine we_int ?_
    refine ⟨_, _, .inl rfl, .inl rfl, ?_⟩
    refine opw_mul (.inr ⟨by decide, by decide⟩) ?_
    refine ⟨_, .inl rfl, ?_⟩
    refine c_int ?_
    refine we_int ?_
    refine ⟨_, _, .inl rfl, .inl rfl, ?_⟩
    refine opw_mod (by decide) ?_
    refine ⟨_, _, rfl, ?_⟩
    refine we_var 0 rfl (by walk_at "vis") rfl ?_
    refine ⟨b, rfl, ?_⟩
    refine we_int ?_
    refine ⟨1, _, 1, rfl, bxG_b, rfl, ?_⟩
    rw [show ([D.adr g, D.int st].set 1 (D.int (st * 48271 % 2147483647))) = [D.adr g, D.int (st * 48271 % 2147483647)] from rfl]
    rw [show updG (bxG G0 b g ([], st)) b (.lst [D.adr g, D.int (st * 48271 % 2147483647)]) = bxG G0 b g ([], st * 48271 % 2147483647) from bxG_setB]
    refine wb_cons (ws_ret ?_)
    refine we_bin ?_
    refine we_t1 (x := "int") (id := "int") rfl B.int bt_int ?_
    refine we_bin ?_
    refine we_ix (fun _ _ => rfl) ?_
    refine we_var 0 rfl (by walk_at "vis") rfl ?_
    refine we_int ?_
    refine ⟨_, _, .inr ⟨b, rfl, bxG_b⟩, .inl rfl, ?_⟩
    refine ixw_lst (d := .int (st * 48271 % 2147483647)) rfl ?_
    refine we_int ?_
    refine ⟨_, _, .inl rfl, .inl rfl, ?_⟩
    refine opw_fdiv ⟨by decide, by decide⟩ ?_
    refine ⟨_, .inl rfl, ?_⟩
    refine c_int ?_
    refine we_var 1 rfl (by walk_at "vis") rfl ?_
    refine ⟨_, _, .inl rfl, .inl rfl, ?_⟩
    refine opw_mod hm0 ?_
    exact ⟨_, rfl, h⟩
  · obtain ⟨n, rs, e0⟩ : ∃ n rs, ns = n :: rs := by
      cases ns with
      | nil => exact absurd ((eqD_lst0 []).symm.trans hd) (by decide)
      | cons n rs => exact ⟨n, rs, rfl⟩
    subst e0
    replace h : post (.sh (.int (n % m))) (bxG G0 b g (if n / m = 0 ∨ n / m = -1 then rs else n / m :: rs, st)) := h
    refine wb_nil ?_
    refine wb_cons (ws_set 2 nd rfl (.inl rfl) ?_)
    refine we_ix (fun _ _ => rfl) ?_
    refine we_ix (fun _ _ => rfl) ?_
    refine we_var 0 rfl (by walk_at "vis") rfl ?_
    refine we_int ?_
    refine ⟨_, _, .inr ⟨b, rfl, bxG_b⟩, .inl rfl, ?_⟩
    refine ixw_lst (d := .adr g) rfl ?_
    refine we_int ?_
    refine ⟨_, _, .inr ⟨g, rfl, bxG_g hne⟩, .inl rfl, ?_⟩
    refine ixw_lst (d := .int n) (atD_nat (j := 0) rfl) ?_
    refine ⟨lt_ rfl, _, rfl, ?_⟩
    refine wb_cons (ws_setG ?_)
    refine we_bin ?_
    refine we_var 2 rfl (by walk_at "vis") rfl ?_
    refine we_var 1 rfl (by walk_at "vis") rfl ?_
    refine ⟨_, _, .inl rfl, .inl rfl, ?_⟩
    refine opw_fdivX ⟨hm0, hm1⟩ ?_
    refine ⟨_, _, rfl, ?_⟩
    refine we_ix (fun _ _ => rfl) ?_
    refine we_var 0 rfl (by walk_at "vis") rfl ?_
    refine we_int ?_
    refine ⟨_, _, .inr ⟨b, rfl, bxG_b⟩, .inl rfl, ?_⟩
    refine ixw_lst (d := .adr g) rfl ?_
    refine ⟨g, rfl, ?_⟩
    refine we_int ?_
    refine ⟨0, _, 0, rfl, bxG_g hne, ixN0 _ _, ?_⟩
    rw [show ((n :: rs).map D.int).set 0 (D.int (n / m)) = (n / m :: rs).map D.int from rfl, bxG_setG hne]
    refine wb_env [.sh (.adr b), .sh (.int m), .sh (.int n)] rfl ?_
    have last : ∀ G', post (.sh (.int (n % m))) G' → WB (cyOf P w K mg base ["_law_box", "_law_many", "_law_figure"] "_law_take" (defScope s_law_take) f cdv A outer s H E F0 T px) ((defBody s_law_take).drop 4) [.sh (.adr b), .sh (.int m), .sh (.int n)] G' { nx := fun _ G' => post (.sh .non) G', rt := post } := fun G' hG => by
      refine wb_cons (ws_ret ?_)
      refine we_bin ?_
      refine we_var 2 rfl (by walk_at "vis") rfl ?_
      refine we_var 1 rfl (by walk_at "vis") rfl ?_
      refine ⟨_, _, .inl rfl, .inl rfl, ?_⟩
      refine opw_mod hm0 ?_
      exact ⟨_, rfl, hG⟩
    have item : ∀ {Q : Res → Prop}, Q (.sh (.int (n / m))) → IxW (cyOf P w K mg base ["_law_box", "_law_many", "_law_figure"] "_law_take" (defScope s_law_take) f cdv A outer s H E F0 T px) (.lst ((n / m :: rs).map D.int)) (.int 0) Q := fun q => ixw_lst (d := .int (n / m)) (atD_nat (j := 0) rfl) q
    refine wb_cons (ws_if ?_)
    refine wt_w (ww_orB ?_)
    refine wt_cmp (nomark _) ?_
    refine we_ix (fun _ _ => rfl) ?_
    refine we_ix (fun _ _ => rfl) ?_
    refine we_var 0 rfl (by walk_at "vis") rfl ?_
    refine we_int ?_
    refine ⟨_, _, .inr ⟨b, rfl, bxG_b⟩, .inl rfl, ?_⟩
    refine ixw_lst (d := .adr g) rfl ?_
    refine we_int ?_
    refine ⟨_, _, .inr ⟨g, rfl, bxG_g hne⟩, .inl rfl, ?_⟩
    refine item ?_
    refine we_int ?_
    refine ⟨_, _, .inl rfl, .inl rfl, ?_⟩
    refine opw_eqI ?_
    refine ⟨_, rfl, ?_⟩
    refine ⟨decide (n / m = -1), fun hc => ?_, ?_⟩
    · refine ww_or1 ?_
      refine wt_cmp (nomark _) ?_
      refine we_ix (fun _ _ => rfl) ?_
      refine we_ix (fun _ _ => rfl) ?_
      refine we_var 0 rfl (by walk_at "vis") rfl ?_
      refine we_int ?_
      refine ⟨_, _, .inr ⟨b, rfl, bxG_b⟩, .inl rfl, ?_⟩
      refine ixw_lst (d := .adr g) rfl ?_
      refine we_int ?_
      refine ⟨_, _, .inr ⟨g, rfl, bxG_g hne⟩, .inl rfl, ?_⟩
      refine item ?_
      refine we_un rfl ?_
      refine we_int ?_
      refine ⟨_, rfl, ?_⟩
      refine ⟨_, _, .inl rfl, .inl rfl, ?_⟩
      refine opw_eqI ?_
      exact ⟨_, rfl, rfl, rfl, rfl⟩
    refine ⟨fun hd2 => ?_, fun hd2 => ?_⟩
    · have hc : n / m = 0 ∨ n / m = -1 := by
        simpa using hd2
      refine wb_cons (ws_expr ?_)
      refine we_m1G PySem.F.plainAttrs_list PySem.F.slot_list_pop PySem.F.type_list_pop ?_
      refine we_ix (fun _ _ => rfl) ?_
      refine we_var 0 rfl (by walk_at "vis") rfl ?_
      refine we_int ?_
      refine ⟨_, _, .inr ⟨b, rfl, bxG_b⟩, .inl rfl, ?_⟩
      refine ixw_lst (d := .adr g) rfl ?_
      refine ⟨g, _, rfl, bxG_g hne, ?_⟩
      refine we_int ?_
      refine ⟨_, _, (n / m :: rs).map D.int, rfl, bxG_g hne, ?_⟩
      refine mw_popLt (i := 0) (d := .int (n / m)) rfl (by decide) ?_
      refine wb_nil ?_
      rw [show ((n / m :: rs).map D.int).eraseIdx 0 = rs.map D.int from rfl, bxG_setG hne]
      refine last _ ?_
      rw [if_pos hc] at h
      exact h
    · have hc : ¬ (n / m = 0 ∨ n / m = -1) := by
        simpa using hd2
      refine wb_nil ?_
      refine last _ ?_
      rw [if_neg hc] at h
      exact h

/-- _law_begun, as a plain function -/
theorem ok_law_begun {f : Addr} {fd : FuncData} (F : Fun K "_law_begun" "_law_begun" s_law_begun f fd) (B : Bn mg) : FnOk P w K mg base (L2.CX P w) 3 f fd ["_law_script"] (spD K (FBegun m_law_begun)) := by
  refine def_ok F sc_law_begun (fun ds G post px h => ?_) (fun cdv A outer s H E F0 T hr ds G post px h tk hp => ?_)
  · obtain ⟨_, rfl, _⟩ := h; rfl
  obtain ⟨ns, rfl, hq⟩ := h
  have nd := sc_law_begun.nd
  refine wb_cons (ws_set 1 nd rfl (.inl rfl) ?_)
  refine we_int ?_
  refine ⟨lt_ rfl, _, rfl, ?_⟩
  refine wb_cons (ws_for (is := [2]) hp rfl ?_)
  refine wi_scr ?_
  refine we_var 0 rfl (by walk_at "vis") rfl ?_
  refine ⟨ns, _, rfl, fun k r G' => G' = G ∧ ∃ z, r = [.sh (.scr ns), .sh (.int ((ns.take k).foldl (fun s n => (s * 48271 + n * 69621 + 11) % 2147483647) 0)), z], ⟨rfl, .no, rfl⟩, fun k d r3 G3 hk ⟨h1, z, h2⟩ => ?_, fun r3 G3 ⟨h1, z, h2⟩ => ?_⟩
  · subst h1 h2
    obtain ⟨n, hn, rfl⟩ := map_at hk
    refine wg_name 2 nd rfl (.inl rfl) (by decide) (lt_ rfl) ?_
    refine wb_cons (ws_set 1 nd rfl (.inl rfl) ?_)
    refine we_bin ?_
    refine we_t1 (x := "int") (id := "int") rfl B.int bt_int ?_
    refine we_bin ?_
    refine we_bin ?_
    refine we_bin ?_
    refine we_var 1 rfl (by walk_at "vis") rfl ?_
    refine we_int ?_
    refine ⟨_, _, .inl rfl, .inl rfl, ?_⟩
    refine opw_mul (.inr ⟨by decide, by decide⟩) ?_
    refine we_bin ?_
    refine we_var 2 rfl (by walk_at "vis") rfl ?_
    refine we_int ?_
    refine ⟨_, _, .inl rfl, .inl rfl, ?_⟩
    refine opw_mul (.inr ⟨by decide, by decide⟩) ?_
    refine ⟨_, _, .inl rfl, .inl rfl, ?_⟩
    refine opw_add ?_
    refine we_int ?_
    refine ⟨_, _, .inl rfl, .inl rfl, ?_⟩
    refine opw_add ?_
    refine ⟨_, .inl rfl, ?_⟩
    refine c_int ?_
    refine we_int ?_
    refine ⟨_, _, .inl rfl, .inl rfl, ?_⟩
    refine opw_mod (by decide) ?_
    refine ⟨lt_ rfl, _, rfl, ?_⟩
    refine wb_nil ⟨rfl, .sh (.int n), ?_⟩
    rw [List.take_add_one, hn]
    show _ = [_, Sl.sh (.int (List.foldl _ _ (ns.take k ++ [n]))), _]
    rw [List.foldl_append]
    rfl
  · subst h1 h2
    rw [List.length_map, List.take_length]
    refine wb_cons (ws_ret ?_)
    refine we_open ?_
    refine we_lst ?_
    refine wa_cons ?_
    refine we_open ?_
    refine we_t1 (x := "list") (id := "list") rfl B.list bt_list ?_
    refine we_var 0 rfl (by walk_at "vis") rfl ?_
    refine ⟨_, .inl rfl, ?_⟩
    refine c_listR ?_
    refine ⟨_, rfl, fun g hg => ?_⟩
    refine ⟨_, _, rfl, ?_⟩
    refine wa_cons ?_
    refine we_bin ?_
    refine we_var 1 rfl (by walk_at "vis") rfl ?_
    refine we_t1 (x := "int") (id := "int") rfl B.int bt_int ?_
    refine we_cmp (nomark _) ?_
    refine we_b1 (x := "len") (id := "len") rfl B.len bt_len ?_
    refine we_var 0 rfl (by walk_at "vis") rfl ?_
    refine ⟨_, .inl rfl, ?_⟩
    refine c_lenR ?_
    refine we_int ?_
    refine ⟨_, _, .inl rfl, .inl rfl, ?_⟩
    refine opw_gt ?_
    refine ⟨_, .inl rfl, ?_⟩
    refine c_intB ?_
    refine ⟨_, _, .inl rfl, .inl rfl, ?_⟩
    refine opw_mul (.inr ?_) ?_
    · split <;> decide
    refine ⟨_, _, rfl, ?_⟩
    refine wa_nil ?_
    refine ⟨lt_ rfl, ?_⟩
    refine ⟨_, rfl, fun b hb => ?_⟩
    have hne : g ≠ b := fun z => by subst z; rw [updG_same] at hb; cases hb
    exact ⟨_, rfl, hq b g hne (by rwa [updG_ne (Ne.symm hne)] at hb) hg⟩

theorem ok_law_alike {f : Addr} {fd : FuncData} {k n : Nat} (F : Fun K "_law_alike" "_law_alike" s_law_alike f fd) (B : Bn mg) (c_law_alike : 0 < n → Cal P w K mg base "_law_alike" k ["_law_found", "_law_due"] (alikeF (n - 1))) : FnOk P w K mg base (L2.CX P w) (k + 1) f fd ["_law_found", "_law_due"] (spD K (alikeF n)) := by
  refine def_ok F sc_law_alike (fun ds G post px h => ?_) (fun cdv A outer s H E F0 T hr ds G post px h tk hp => ?_)
  · obtain ⟨d, rfl, _⟩ := h; rfl
  obtain ⟨d, rfl, hok, hq⟩ := h
  have nd := sc_law_alike.nd
  refine wb_env [.sh d, .sh d, .no] rfl ?_
  cases d with
  | non =>
    refine wb_cons (ws_if ?_)
    refine wt_cmp (nomark _) ?_
    refine we_var 1 rfl (by walk_at "vis") rfl ?_
    refine we_non ?_
    refine ⟨_, _, .inl rfl, .inl rfl, ?_⟩
    refine opw_isN ?_
    refine ⟨_, rfl, fun _ => ?_, fun hd => absurd (show true = false from hd) (by decide)⟩
    refine wb_cons (ws_ret ?_)
    refine we_cmp (nomark _) ?_
    refine we_var 0 rfl (by walk_at "vis") rfl ?_
    refine we_non ?_
    refine ⟨_, _, .inl rfl, .inl rfl, ?_⟩
    refine opw_isN ?_
    exact ⟨_, rfl, hq⟩
  | bl b =>
    refine wb_cons (ws_if ?_)
    refine wt_cmp (nomark _) ?_
    refine we_var 1 rfl (by walk_at "vis") rfl ?_
    refine we_non ?_
    refine ⟨_, _, .inl rfl, .inl rfl, ?_⟩
    refine opw_isN ?_
    refine ⟨_, rfl, fun hd => absurd (show false = true from hd) Bool.false_ne_true, fun _ => ?_⟩
    refine wb_nil ?_
    refine wb_cons (ws_if ?_)
    refine wt_val (fun _ => rfl) ?_
    refine we_isi rfl B.isinstance bt_isinstance rfl B.bool bt_bool ?_
    refine we_var 1 rfl (by walk_at "vis") rfl ?_
    refine ⟨_, _, _, .inl rfl, rfl, kt_bool_bool, ?_⟩
    refine ⟨_, rfl, fun _ => ?_, fun hd => absurd (show true = false from hd) (by decide)⟩
    refine wb_cons (ws_ret ?_)
    refine we_and ?_
    refine we_isi rfl B.isinstance bt_isinstance rfl B.bool bt_bool ?_
    refine we_var 0 rfl (by walk_at "vis") rfl ?_
    refine ⟨_, _, _, .inl rfl, rfl, kt_bool_bool, ?_⟩
    refine ⟨_, rfl, fun _ => ?_, fun hc => absurd hc (by decide)⟩
    refine we_one ?_
    refine we_cmp (nomark _) ?_
    refine we_var 0 rfl (by walk_at "vis") rfl ?_
    refine we_var 1 rfl (by walk_at "vis") rfl ?_
    refine ⟨_, _, .inl rfl, .inl rfl, ?_⟩
    refine opw_eqB ?_
    refine ⟨_, rfl, ?_⟩
    rw [beq_self_eq_true]
    exact hq
  | int i =>
    refine wb_cons (ws_if ?_)
    refine wt_cmp (nomark _) ?_
    refine we_var 1 rfl (by walk_at "vis") rfl ?_
    refine we_non ?_
    refine ⟨_, _, .inl rfl, .inl rfl, ?_⟩
    refine opw_isN ?_
    refine ⟨_, rfl, fun hd => absurd (show false = true from hd) Bool.false_ne_true, fun _ => ?_⟩
    refine wb_nil ?_
    refine wb_cons (ws_if ?_)
    refine wt_val (fun _ => rfl) ?_
    refine we_isi rfl B.isinstance bt_isinstance rfl B.bool bt_bool ?_
    refine we_var 1 rfl (by walk_at "vis") rfl ?_
    refine ⟨_, _, _, .inl rfl, rfl, kt_int_bool, ?_⟩
    refine ⟨_, rfl, fun hd => absurd (show false = true from hd) Bool.false_ne_true, fun _ => ?_⟩
    refine wb_nil ?_
    refine wb_cons (ws_if ?_)
    refine wt_val (fun _ => rfl) ?_
    refine we_isi rfl B.isinstance bt_isinstance rfl B.int bt_int ?_
    refine we_var 1 rfl (by walk_at "vis") rfl ?_
    refine ⟨_, _, _, .inl rfl, rfl, kt_int_int, ?_⟩
    refine ⟨_, rfl, fun _ => ?_, fun hd => absurd (show true = false from hd) (by decide)⟩
    refine wb_cons (ws_ret ?_)
    refine we_and ?_
    refine we_isi rfl B.isinstance bt_isinstance rfl B.int bt_int ?_
    refine we_var 0 rfl (by walk_at "vis") rfl ?_
    refine ⟨_, _, _, .inl rfl, rfl, kt_int_int, ?_⟩
    refine ⟨_, rfl, fun _ => ?_, fun hc => absurd hc (by decide)⟩
    refine we_and ?_
    refine we_not ?_
    refine we_isi rfl B.isinstance bt_isinstance rfl B.bool bt_bool ?_
    refine we_var 0 rfl (by walk_at "vis") rfl ?_
    refine ⟨_, _, _, .inl rfl, rfl, kt_int_bool, ?_⟩
    refine ⟨_, rfl, ?_⟩
    refine ⟨_, rfl, fun _ => ?_, fun hc => absurd hc (by decide)⟩
    refine we_one ?_
    refine we_cmp (nomark _) ?_
    refine we_var 0 rfl (by walk_at "vis") rfl ?_
    refine we_var 1 rfl (by walk_at "vis") rfl ?_
    refine ⟨_, _, .inl rfl, .inl rfl, ?_⟩
    refine opw_eqI ?_
    refine ⟨_, rfl, ?_⟩
    rw [decide_eq_true rfl]
    exact hq
  | str x =>
    refine wb_cons (ws_if ?_)
    refine wt_cmp (nomark _) ?_
    refine we_var 1 rfl (by walk_at "vis") rfl ?_
    refine we_non ?_
    refine ⟨_, _, .inl rfl, .inl rfl, ?_⟩
    refine opw_isN ?_
    refine ⟨_, rfl, fun hd => absurd (show false = true from hd) Bool.false_ne_true, fun _ => ?_⟩
    refine wb_nil ?_
    refine wb_cons (ws_if ?_)
    refine wt_val (fun _ => rfl) ?_
    refine we_isi rfl B.isinstance bt_isinstance rfl B.bool bt_bool ?_
    refine we_var 1 rfl (by walk_at "vis") rfl ?_
    refine ⟨_, _, _, .inl rfl, rfl, kt_str_bool, ?_⟩
    refine ⟨_, rfl, fun hd => absurd (show false = true from hd) Bool.false_ne_true, fun _ => ?_⟩
    refine wb_nil ?_
    refine wb_cons (ws_if ?_)
    refine wt_val (fun _ => rfl) ?_
    refine we_isi rfl B.isinstance bt_isinstance rfl B.int bt_int ?_
    refine we_var 1 rfl (by walk_at "vis") rfl ?_
    refine ⟨_, _, _, .inl rfl, rfl, kt_str_int, ?_⟩
    refine ⟨_, rfl, fun hd => absurd (show false = true from hd) Bool.false_ne_true, fun _ => ?_⟩
    refine wb_nil ?_
    refine wb_cons (ws_if ?_)
    refine wt_val (fun _ => rfl) ?_
    refine we_isi rfl B.isinstance bt_isinstance rfl B.str bt_str ?_
    refine we_var 1 rfl (by walk_at "vis") rfl ?_
    refine ⟨_, _, _, .inl rfl, rfl, kt_str_str, ?_⟩
    refine ⟨_, rfl, fun _ => ?_, fun hd => absurd (show true = false from hd) (by decide)⟩
    refine wb_cons (ws_ret ?_)
    refine we_and ?_
    refine we_isi rfl B.isinstance bt_isinstance rfl B.str bt_str ?_
    refine we_var 0 rfl (by walk_at "vis") rfl ?_
    refine ⟨_, _, _, .inl rfl, rfl, kt_str_str, ?_⟩
    refine ⟨_, rfl, fun _ => ?_, fun hc => absurd hc (by decide)⟩
    refine we_one ?_
    refine we_cmp (nomark _) ?_
    refine we_var 0 rfl (by walk_at "vis") rfl ?_
    refine we_var 1 rfl (by walk_at "vis") rfl ?_
    refine ⟨_, _, .inl rfl, .inl rfl, ?_⟩
    refine opw_eqS ?_
    refine ⟨_, rfl, ?_⟩
    rw [decide_eq_true rfl]
    exact hq
  | tup ds =>
    cases n with
    | zero => exact absurd (show false = true from hok) Bool.false_ne_true
    | succ n =>
    replace c_law_alike := c_law_alike (Nat.succ_pos n)
    replace hok : ds.length ≤ LIM ∧ ∀ d ∈ ds, alB n d = true := by have h2 : (decide (ds.length ≤ LIM) && ds.all (alB n)) = true := hok; rw [Bool.and_eq_true, decide_eq_true_eq, List.all_eq_true] at h2; exact h2
    have hlim : ds.length ≤ LIM := hok.1
    have hlim2 : (ds.length : Int) ≤ 16777216 := by have := hlim; unfold LIM at this; omega
    refine wb_cons (ws_if ?_)
    refine wt_cmp (nomark _) ?_
    refine we_var 1 rfl (by walk_at "vis") rfl ?_
    refine we_non ?_
    refine ⟨_, _, .inl rfl, .inl rfl, ?_⟩
    refine opw_isN ?_
    refine ⟨_, rfl, fun hd => absurd (show false = true from hd) Bool.false_ne_true, fun _ => ?_⟩
    refine wb_nil ?_
    refine wb_cons (ws_if ?_)
    refine wt_val (fun _ => rfl) ?_
    refine we_isi rfl B.isinstance bt_isinstance rfl B.bool bt_bool ?_
    refine we_var 1 rfl (by walk_at "vis") rfl ?_
    refine ⟨_, _, _, .inl rfl, rfl, kt_tuple_bool, ?_⟩
    refine ⟨_, rfl, fun hd => absurd (show false = true from hd) Bool.false_ne_true, fun _ => ?_⟩
    refine wb_nil ?_
    refine wb_cons (ws_if ?_)
    refine wt_val (fun _ => rfl) ?_
    refine we_isi rfl B.isinstance bt_isinstance rfl B.int bt_int ?_
    refine we_var 1 rfl (by walk_at "vis") rfl ?_
    refine ⟨_, _, _, .inl rfl, rfl, kt_tuple_int, ?_⟩
    refine ⟨_, rfl, fun hd => absurd (show false = true from hd) Bool.false_ne_true, fun _ => ?_⟩
    refine wb_nil ?_
    refine wb_cons (ws_if ?_)
    refine wt_val (fun _ => rfl) ?_
    refine we_isi rfl B.isinstance bt_isinstance rfl B.str bt_str ?_
    refine we_var 1 rfl (by walk_at "vis") rfl ?_
    refine ⟨_, _, _, .inl rfl, rfl, kt_tuple_str, ?_⟩
    refine ⟨_, rfl, fun hd => absurd (show false = true from hd) Bool.false_ne_true, fun _ => ?_⟩
    refine wb_nil ?_
    refine wb_cons (ws_if ?_)
    refine wt_w (ww_or ?_)
    refine wt_cmp (nomark _) ?_
    refine we_isi rfl B.isinstance bt_isinstance rfl B.tuple bt_tuple ?_
    refine we_var 1 rfl (by walk_at "vis") rfl ?_
    refine ⟨_, _, _, .inl rfl, rfl, kt_tuple_tuple, ?_⟩
    refine we_isi rfl B.isinstance bt_isinstance rfl B.tuple bt_tuple ?_
    refine we_var 0 rfl (by walk_at "vis") rfl ?_
    refine ⟨_, _, _, .inl rfl, rfl, kt_tuple_tuple, ?_⟩
    refine ⟨_, _, .inl rfl, .inl rfl, ?_⟩
    refine opw_neB ?_
    refine ⟨_, rfl, fun _ => ?_, fun hd => absurd (show false = true from hd) Bool.false_ne_true⟩
    refine ww_or1 ?_
    refine wt_cmp (nomark _) ?_
    refine we_isi rfl B.isinstance bt_isinstance rfl B.list bt_list ?_
    refine we_var 1 rfl (by walk_at "vis") rfl ?_
    refine ⟨_, _, _, .inl rfl, rfl, kt_tuple_list, ?_⟩
    refine we_isi rfl B.isinstance bt_isinstance rfl B.list bt_list ?_
    refine we_var 0 rfl (by walk_at "vis") rfl ?_
    refine ⟨_, _, _, .inl rfl, rfl, kt_tuple_list, ?_⟩
    refine ⟨_, _, .inl rfl, .inl rfl, ?_⟩
    refine opw_neB ?_
    refine ⟨_, rfl, fun hd => absurd (show false = true from hd) Bool.false_ne_true, fun _ => ?_⟩
    refine wb_nil ?_
    refine wb_cons (ws_if ?_)
    refine wt_cmp (nomark _) ?_
    refine we_b1 (x := "len") (id := "len") rfl B.len bt_len ?_
    refine we_var 0 rfl (by walk_at "vis") rfl ?_
    refine ⟨_, .inl rfl, ?_⟩
    refine c_lenT ?_
    refine we_b1 (x := "len") (id := "len") rfl B.len bt_len ?_
    refine we_var 1 rfl (by walk_at "vis") rfl ?_
    refine ⟨_, .inl rfl, ?_⟩
    refine c_lenT ?_
    refine ⟨_, _, .inl rfl, .inl rfl, ?_⟩
    refine opw_neI ?_
    refine ⟨_, rfl, fun hd => absurd hd (by simp), fun _ => ?_⟩
    refine wb_nil ?_
    refine wb_cons (ws_for (is := [2]) hp rfl ?_)
    refine wi_rng1 rfl B.range ?_
    refine we_b1 (x := "len") (id := "len") rfl B.len bt_len ?_
    refine we_var 1 rfl (by walk_at "vis") rfl ?_
    refine ⟨_, .inl rfl, ?_⟩
    refine c_lenT ?_
    refine ⟨_, rfl, ⟨by omega, by omega⟩, fun j r G' => G' = G ∧ ∃ z, r = [.sh (.tup ds), .sh (.tup ds), z], ⟨rfl, .no, rfl⟩, fun j d r3 G3 hj ⟨h1, z, h2⟩ => ?_, fun r3 G3 ⟨h1, z, h2⟩ => ?_⟩
    · subst h1 h2
      obtain ⟨jj, hj1, rfl⟩ := map_at hj
      obtain ⟨hj3, rfl⟩ := rgI_get hj1
      have hj2 : j < ds.length := by omega
      have hjd : ds[j]? = some ds[j] := List.getElem?_eq_getElem hj2
      rw [show (0 : Int) + ((j : Nat) : Int) = ((j : Nat) : Int) from Int.zero_add _]
      refine wg_name 2 nd rfl (by walk_at "vis") (by decide) (lt_ rfl) ?_
      refine wb_cons (ws_if ?_)
      refine wt_not ?_
      refine wt_val (fun _ => rfl) ?_
      refine we_cal tk c_law_alike hr rfl ?_
      refine wa_cons ?_
      refine we_ix (fun _ _ => rfl) ?_
      refine we_var 0 rfl (by walk_at "vis") rfl ?_
      refine we_var 2 rfl (by walk_at "vis") rfl ?_
      refine ⟨_, _, .inl rfl, .inl rfl, ?_⟩
      refine ixw_tup (atD_nat hjd) ?_
      refine ⟨_, _, rfl, ?_⟩
      refine wa_cons ?_
      refine we_ix (fun _ _ => rfl) ?_
      refine we_var 1 rfl (by walk_at "vis") rfl ?_
      refine we_var 2 rfl (by walk_at "vis") rfl ?_
      refine ⟨_, _, .inl rfl, .inl rfl, ?_⟩
      refine ixw_tup (atD_nat hjd) ?_
      refine ⟨_, _, rfl, ?_⟩
      refine wa_nil ?_
      refine ⟨ds[j], rfl, hok.2 _ (List.getElem_mem hj2), ?_⟩
      refine ⟨_, rfl, fun hd => absurd (show false = true from hd) Bool.false_ne_true, fun _ => ?_⟩
      refine wb_nil (wb_nil ⟨rfl, .sh (.int (j : Nat)), rfl⟩)
    · subst h1 h2
      refine wb_cons (ws_ret ?_)
      refine we_bl ?_
      exact ⟨_, rfl, hq⟩
  | lst ds =>
    cases n with
    | zero => exact absurd (show false = true from hok) Bool.false_ne_true
    | succ n =>
    replace c_law_alike := c_law_alike (Nat.succ_pos n)
    replace hok : ds.length ≤ LIM ∧ ∀ d ∈ ds, alB n d = true := by have h2 : (decide (ds.length ≤ LIM) && ds.all (alB n)) = true := hok; rw [Bool.and_eq_true, decide_eq_true_eq, List.all_eq_true] at h2; exact h2
    have hlim : ds.length ≤ LIM := hok.1
    have hlim2 : (ds.length : Int) ≤ 16777216 := by have := hlim; unfold LIM at this; omega
    refine wb_cons (ws_if ?_)
    refine wt_cmp (nomark _) ?_
    refine we_var 1 rfl (by walk_at "vis") rfl ?_
    refine we_non ?_
    refine ⟨_, _, .inl rfl, .inl rfl, ?_⟩
    refine opw_isN ?_
    refine ⟨_, rfl, fun hd => absurd (show false = true from hd) Bool.false_ne_true, fun _ => ?_⟩
    refine wb_nil ?_
    refine wb_cons (ws_if ?_)
    refine wt_val (fun _ => rfl) ?_
    refine we_isi rfl B.isinstance bt_isinstance rfl B.bool bt_bool ?_
    refine we_var 1 rfl (by walk_at "vis") rfl ?_
    refine ⟨_, _, _, .inl rfl, rfl, kt_list_bool, ?_⟩
    refine ⟨_, rfl, fun hd => absurd (show false = true from hd) Bool.false_ne_true, fun _ => ?_⟩
    refine wb_nil ?_
    refine wb_cons (ws_if ?_)
    refine wt_val (fun _ => rfl) ?_
    refine we_isi rfl B.isinstance bt_isinstance rfl B.int bt_int ?_
    refine we_var 1 rfl (by walk_at "vis") rfl ?_
    refine ⟨_, _, _, .inl rfl, rfl, kt_list_int, ?_⟩
    refine ⟨_, rfl, fun hd => absurd (show false = true from hd) Bool.false_ne_true, fun _ => ?_⟩
    refine wb_nil ?_
    refine wb_cons (ws_if ?_)
    refine wt_val (fun _ => rfl) ?_
    refine we_isi rfl B.isinstance bt_isinstance rfl B.str bt_str ?_
    refine we_var 1 rfl (by walk_at "vis") rfl ?_
    refine ⟨_, _, _, .inl rfl, rfl, kt_list_str, ?_⟩
    refine ⟨_, rfl, fun hd => absurd (show false = true from hd) Bool.false_ne_true, fun _ => ?_⟩
    refine wb_nil ?_
    refine wb_cons (ws_if ?_)
    refine wt_w (ww_or ?_)
    refine wt_cmp (nomark _) ?_
    refine we_isi rfl B.isinstance bt_isinstance rfl B.tuple bt_tuple ?_
    refine we_var 1 rfl (by walk_at "vis") rfl ?_
    refine ⟨_, _, _, .inl rfl, rfl, kt_list_tuple, ?_⟩
    refine we_isi rfl B.isinstance bt_isinstance rfl B.tuple bt_tuple ?_
    refine we_var 0 rfl (by walk_at "vis") rfl ?_
    refine ⟨_, _, _, .inl rfl, rfl, kt_list_tuple, ?_⟩
    refine ⟨_, _, .inl rfl, .inl rfl, ?_⟩
    refine opw_neB ?_
    refine ⟨_, rfl, fun _ => ?_, fun hd => absurd (show false = true from hd) Bool.false_ne_true⟩
    refine ww_or1 ?_
    refine wt_cmp (nomark _) ?_
    refine we_isi rfl B.isinstance bt_isinstance rfl B.list bt_list ?_
    refine we_var 1 rfl (by walk_at "vis") rfl ?_
    refine ⟨_, _, _, .inl rfl, rfl, kt_list_list, ?_⟩
    refine we_isi rfl B.isinstance bt_isinstance rfl B.list bt_list ?_
    refine we_var 0 rfl (by walk_at "vis") rfl ?_
    refine ⟨_, _, _, .inl rfl, rfl, kt_list_list, ?_⟩
    refine ⟨_, _, .inl rfl, .inl rfl, ?_⟩
    refine opw_neB ?_
    refine ⟨_, rfl, fun hd => absurd (show false = true from hd) Bool.false_ne_true, fun _ => ?_⟩
    refine wb_nil ?_
    refine wb_cons (ws_if ?_)
    refine wt_cmp (nomark _) ?_
    refine we_b1 (x := "len") (id := "len") rfl B.len bt_len ?_
    refine we_var 0 rfl (by walk_at "vis") rfl ?_
    refine ⟨_, .inl rfl, ?_⟩
    refine c_len ?_
    refine we_b1 (x := "len") (id := "len") rfl B.len bt_len ?_
    refine we_var 1 rfl (by walk_at "vis") rfl ?_
    refine ⟨_, .inl rfl, ?_⟩
    refine c_len ?_
    refine ⟨_, _, .inl rfl, .inl rfl, ?_⟩
    refine opw_neI ?_
    refine ⟨_, rfl, fun hd => absurd hd (by simp), fun _ => ?_⟩
    refine wb_nil ?_
    refine wb_cons (ws_for (is := [2]) hp rfl ?_)
    refine wi_rng1 rfl B.range ?_
    refine we_b1 (x := "len") (id := "len") rfl B.len bt_len ?_
    refine we_var 1 rfl (by walk_at "vis") rfl ?_
    refine ⟨_, .inl rfl, ?_⟩
    refine c_len ?_
    refine ⟨_, rfl, ⟨by omega, by omega⟩, fun j r G' => G' = G ∧ ∃ z, r = [.sh (.lst ds), .sh (.lst ds), z], ⟨rfl, .no, rfl⟩, fun j d r3 G3 hj ⟨h1, z, h2⟩ => ?_, fun r3 G3 ⟨h1, z, h2⟩ => ?_⟩
    · subst h1 h2
      obtain ⟨jj, hj1, rfl⟩ := map_at hj
      obtain ⟨hj3, rfl⟩ := rgI_get hj1
      have hj2 : j < ds.length := by omega
      have hjd : ds[j]? = some ds[j] := List.getElem?_eq_getElem hj2
      rw [show (0 : Int) + ((j : Nat) : Int) = ((j : Nat) : Int) from Int.zero_add _]
      refine wg_name 2 nd rfl (by walk_at "vis") (by decide) (lt_ rfl) ?_
      refine wb_cons (ws_if ?_)
      refine wt_not ?_
      refine wt_val (fun _ => rfl) ?_
      refine we_cal tk c_law_alike hr rfl ?_
      refine wa_cons ?_
      refine we_ix (fun _ _ => rfl) ?_
      refine we_var 0 rfl (by walk_at "vis") rfl ?_
      refine we_var 2 rfl (by walk_at "vis") rfl ?_
      refine ⟨_, _, .inl rfl, .inl rfl, ?_⟩
      refine ixw_lst (atD_nat hjd) ?_
      refine ⟨_, _, rfl, ?_⟩
      refine wa_cons ?_
      refine we_ix (fun _ _ => rfl) ?_
      refine we_var 1 rfl (by walk_at "vis") rfl ?_
      refine we_var 2 rfl (by walk_at "vis") rfl ?_
      refine ⟨_, _, .inl rfl, .inl rfl, ?_⟩
      refine ixw_lst (atD_nat hjd) ?_
      refine ⟨_, _, rfl, ?_⟩
      refine wa_nil ?_
      refine ⟨ds[j], rfl, hok.2 _ (List.getElem_mem hj2), ?_⟩
      refine ⟨_, rfl, fun hd => absurd (show false = true from hd) Bool.false_ne_true, fun _ => ?_⟩
      refine wb_nil (wb_nil ⟨rfl, .sh (.int (j : Nat)), rfl⟩)
    · subst h1 h2
      refine wb_cons (ws_ret ?_)
      refine we_bl ?_
      exact ⟨_, rfl, hq⟩
  | dic ks xs => cases n <;> exact absurd (show false = true from hok) Bool.false_ne_true
  | ins C xs => cases n <;> exact absurd (show false = true from hok) Bool.false_ne_true
  | adr a => cases n <;> exact absurd (show false = true from hok) Bool.false_ne_true
  | obj a b c => cases n <;> exact absurd (show false = true from hok) Bool.false_ne_true
  | slo a b c e => cases n <;> exact absurd (show false = true from hok) Bool.false_ne_true
  | xdo a b => cases n <;> exact absurd (show false = true from hok) Bool.false_ne_true
  | scr a => cases n <;> exact absurd (show false = true from hok) Bool.false_ne_true
  | tab a => cases n <;> exact absurd (show false = true from hok) Bool.false_ne_true
  | hob a => cases n <;> exact absurd (show false = true from hok) Bool.false_ne_true

theorem ok_is_number {f : Addr} {fd : FuncData} (F : Fun K "is_number" "is_number" s_is_number f fd) (B : Bn mg) : FnOk P w K mg base (L2.CX P w) 3 f fd ["value", "lowest", "highest"] (spD K (FM cx (A := Int × Int × Int) (R := Bool) (fun a => [eI a.1, eI a.2.1, eI a.2.2]) (fun v => .sh (eB v)) (fun a => .ok (m_is_number a.1 a.2.1 a.2.2)))) := by
  refine def_ok F sc_is_number (fun ds G post px h => ?_) (fun cdv A outer s H E F0 T hr ds G post px h tk hp => ?_)
  · obtain ⟨_, rfl, _⟩ := h; rfl
  obtain ⟨⟨value1, lowest2, highest3⟩, rfl, h⟩ := h
  unfold m_is_number at h
  try dsimp only at h
  have nd := sc_is_number.nd
  refine wb_env [.sh (eI value1), .sh (eI lowest2), .sh (eI highest3)] rfl ?_
  -- 49
  refine wb_cons (ws_ret ?_)
  refine we_andP (c2 := (!false) && ((decide (lowest2 ≤ value1)) && (decide (value1 ≤ highest3)))) ?_
  refine we_isi rfl B.isinstance bt_isinstance rfl B.int bt_int ?_
  refine we_var 0 rfl (by walk_at "vis") rfl ?_
  refine ⟨_, _, _, .inl rfl, rfl, kt_int_int, ?_⟩
  refine ⟨_, rfl, fun _ => ?_, ?_⟩
  · skip
    refine we_andP (c2 := (decide (lowest2 ≤ value1)) && (decide (value1 ≤ highest3))) ?_
    refine we_not ?_
    refine we_isi rfl B.isinstance bt_isinstance rfl B.bool bt_bool ?_
    refine we_var 0 rfl (by walk_at "vis") rfl ?_
    refine ⟨_, _, _, .inl rfl, rfl, kt_int_bool, ?_⟩
    refine ⟨_, rfl, ?_⟩
    refine ⟨_, rfl, fun _ => ?_, ?_⟩
    · skip
      refine we_one ?_
      refine we_chainI (fun i j R q => opw_le q) (fun i j R q => opw_le q) ?_
      refine we_var 1 rfl (by walk_at "vis") rfl ?_
      refine we_var 0 rfl (by walk_at "vis") rfl ?_
      refine ⟨_, _, highest3, rfl, rfl, fun _ => ?_, ?_⟩
      · skip
        refine we_var 2 rfl (by walk_at "vis") rfl ?_
        exact ⟨rfl, rfl, rfl⟩
      exact ⟨rfl, rfl, rfl⟩
    exact ⟨rfl, rfl, rfl⟩
  refine ⟨_, rfl, ?_⟩
  exact h
theorem ok_is_number_n {f : Addr} {fd : FuncData} (F : Fun K "is_number" "is_number" s_is_number f fd) (B : Bn mg) : FnOk P w K mg base (L2.CX P w) 3 f fd ["value", "lowest", "highest"] (spD K (FM cx (A := IB × Int × Int) (R := Bool) (fun a => [eIB a.1, eI a.2.1, eI a.2.2]) (fun v => .sh (eB v)) (fun a => .ok (m_is_number_n a.1 a.2.1 a.2.2)))) := by
  refine def_ok F sc_is_number (fun ds G post px h => ?_) (fun cdv A outer s H E F0 T hr ds G post px h tk hp => ?_)
  · obtain ⟨_, rfl, _⟩ := h; rfl
  obtain ⟨⟨value1, lowest2, highest3⟩, rfl, h⟩ := h
  have nd := sc_is_number.nd
  cases value1 with
  | i value1 =>
    unfold m_is_number_n at h
    try dsimp only at h
    refine wb_env [.sh (eI value1), .sh (eI lowest2), .sh (eI highest3)] rfl ?_
    -- 49
    refine wb_cons (ws_ret ?_)
    refine we_andP (c2 := (!false) && ((decide (lowest2 ≤ value1)) && (decide (value1 ≤ highest3)))) ?_
    refine we_isi rfl B.isinstance bt_isinstance rfl B.int bt_int ?_
    refine we_var 0 rfl (by walk_at "vis") rfl ?_
    refine ⟨_, _, _, .inl rfl, rfl, kt_int_int, ?_⟩
    refine ⟨_, rfl, fun _ => ?_, ?_⟩
    · skip
      refine we_andP (c2 := (decide (lowest2 ≤ value1)) && (decide (value1 ≤ highest3))) ?_
      refine we_not ?_
      refine we_isi rfl B.isinstance bt_isinstance rfl B.bool bt_bool ?_
      refine we_var 0 rfl (by walk_at "vis") rfl ?_
      refine ⟨_, _, _, .inl rfl, rfl, kt_int_bool, ?_⟩
      refine ⟨_, rfl, ?_⟩
      refine ⟨_, rfl, fun _ => ?_, ?_⟩
      · skip
        refine we_one ?_
        refine we_chainI (fun i j R q => opw_le q) (fun i j R q => opw_le q) ?_
        refine we_var 1 rfl (by walk_at "vis") rfl ?_
        refine we_var 0 rfl (by walk_at "vis") rfl ?_
        refine ⟨_, _, highest3, rfl, rfl, fun _ => ?_, ?_⟩
        · skip
          refine we_var 2 rfl (by walk_at "vis") rfl ?_
          exact ⟨rfl, rfl, rfl⟩
        exact ⟨rfl, rfl, rfl⟩
      exact ⟨rfl, rfl, rfl⟩
    refine ⟨_, rfl, ?_⟩
    exact h
  | b value1 =>
    unfold m_is_number_n at h
    try dsimp only at h
    refine wb_env [.sh (eB value1), .sh (eI lowest2), .sh (eI highest3)] rfl ?_
    -- 49
    refine wb_cons (ws_ret ?_)
    refine we_andP (c2 := (!true) && false) ?_
    refine we_isi rfl B.isinstance bt_isinstance rfl B.int bt_int ?_
    refine we_var 0 rfl (by walk_at "vis") rfl ?_
    refine ⟨_, _, _, .inl rfl, rfl, kt_bool_int, ?_⟩
    refine ⟨_, rfl, fun _ => ?_, ?_⟩
    · skip
      refine we_andP (c2 := false) ?_
      refine we_not ?_
      refine we_isi rfl B.isinstance bt_isinstance rfl B.bool bt_bool ?_
      refine we_var 0 rfl (by walk_at "vis") rfl ?_
      refine ⟨_, _, _, .inl rfl, rfl, kt_bool_bool, ?_⟩
      refine ⟨_, rfl, ?_⟩
      refine ⟨_, rfl, fun hc => absurd hc (by decide), ?_⟩
      exact ⟨rfl, rfl, rfl⟩
    refine ⟨_, rfl, ?_⟩
    exact h
theorem ok_Ruler_init {f : Addr} {fd : FuncData} (F : Fun K "__init__" "Ruler.__init__" s_Ruler_init f fd) (B : Bn mg) (c_is_number : Cal P w K mg base "is_number" 3 ["value", "lowest", "highest"] (FM cx (A := Int × Int × Int) (R := Bool) (fun a => [eI a.1, eI a.2.1, eI a.2.2]) (fun v => .sh (eB v)) (fun a => .ok (m_is_number a.1 a.2.1 a.2.2)))) (cl_Ruler : Cl_Ruler K C_Ruler) {t_MAX_ERROR : Tok} (m_MAX_ERROR : mg "MAX_ERROR" = some (.int 9 t_MAX_ERROR)) {t_MAX_LENGTH : Tok} (m_MAX_LENGTH : mg "MAX_LENGTH" = some (.int 300 t_MAX_LENGTH)) {t_MAX_MARKS : Tok} (m_MAX_MARKS : mg "MAX_MARKS" = some (.int 12 t_MAX_MARKS)) {t_MIN_MARKS : Tok} (m_MIN_MARKS : mg "MIN_MARKS" = some (.int 2 t_MIN_MARKS)) : FnOk P w K mg base (L2.CX P w) 5 f fd ["self", "marks", "error"] (spI K C_Ruler (FMI cx (A := (List Int) × Int) (R := Rul) (fun a => [(eT eI) a.1, eI a.2]) (fun r => [.int r.error, .tup (r.marks.map D.int)]) (fun a => mk_Ruler a.1 a.2))) := by
  obtain ⟨q_Ruler_0, sl_Ruler_0⟩ := cl_Ruler.s0
  obtain ⟨q_Ruler_1, sl_Ruler_1⟩ := cl_Ruler.s1
  have nd := sc_Ruler_init.nd
  refine init2r_ok F sc_Ruler_init cl_Ruler.cls sl_Ruler_1 sl_Ruler_0 (fun ds G post px h => ?_) ((defBody s_Ruler_init).take 3) ((defBody s_Ruler_init).getD 3 (.Pass ⟨0, 0, 0, 0⟩)) ((defBody s_Ruler_init).getD 4 (.Pass ⟨0, 0, 0, 0⟩)) 1 2 rfl (fun cdv A outer s H E F0 T hr px => ⟨SlX.ps_sl (pe_var rfl (by walk_at "vis")) (pe_var rfl (by walk_at "vis")), SlX.ps_sl (pe_var rfl (by walk_at "vis")) (pe_var rfl (by walk_at "vis")), fun a0 ds G post h tk hp => ?_⟩)
  · obtain ⟨_, rfl, _⟩ := h; rfl
  obtain ⟨⟨marks1, error2⟩, rfl, h⟩ := h
  unfold mk_Ruler at h
  try dsimp only at h
  refine wb_env [.sh (.adr a0), .sh ((eT eI) marks1), .sh (eI error2), .no, .no, .no] rfl ?_
  -- 59
  refine wb_forO (β := Rul) [3, 4] (σT := Unit) (fun s3 => [.sh (.adr a0), .sh ((eT eI) marks1), .sh (eI error2), .no, .no, .no]) (fun s3 => G) (eP eI eI) hp rfl ?_
  refine ti_enumT (f := eI) rfl B.enumerate ?_
  refine we_var 1 rfl (by walk_at "vis") rfl ?_
  refine ⟨marks1, _, rfl, fun hl6 => ?_⟩
  refine ⟨(penum marks1), (), _, _, _, _, rfl, (.eq (.eq (.eq (.no (.no (.no .nil)))))), rfl, h, fun s3 x5 Q' h => ?_, fun s4 h => ?_⟩
  · skip
    refine wg_pair 3 4 rfl nd rfl rfl (by walk_at "vis") (by walk_at "vis") (by decide) (by decide) (lt_ rfl) (lt_ rfl) ?_
    refine wb_env [.sh (.adr a0), .sh ((eT eI) marks1), .sh (eI error2), .sh (eI x5.1), .sh (eI x5.2), .no] rfl ?_
    -- 60
    refine wb_cons (ws_set 5 nd rfl (by walk_at "vis") ?_)
    refine we_ifN eI ?_
    refine wt_cmp (nomark _) ?_
    refine we_var 3 rfl (by walk_at "vis") rfl ?_
    refine we_int ?_
    refine ⟨_, _, .inl rfl, .inl rfl, ?_⟩
    refine opw_eqI ?_
    refine ⟨_, rfl, ?_⟩
    refine ⟨_, _, _, _, _, _, h, fun _ Q' h => ?_, fun _ Q' h => ?_, fun i7 h => ?_⟩
    · skip
      refine we_int ?_
      exact ⟨_, rfl, rfl, rfl, h⟩
    · skip
      refine we_bin ?_
      refine we_ix (fun _ _ => rfl) ?_
      refine we_var 1 rfl (by walk_at "vis") rfl ?_
      refine we_bin ?_
      refine we_var 3 rfl (by walk_at "vis") rfl ?_
      refine we_int ?_
      refine ⟨_, _, .inl rfl, .inl rfl, ?_⟩
      refine opw_sub ?_
      obtain ⟨x8, hx8, h⟩ := Out.gt h
      refine ⟨_, _, .inl rfl, .inl rfl, ?_⟩
      refine t_ixT (f := eI) hx8 ?_
      refine we_int ?_
      refine ⟨_, _, .inl rfl, .inl rfl, ?_⟩
      refine opw_add ?_
      exact ⟨_, rfl, rfl, rfl, h⟩
    refine ⟨lt_ rfl, _, rfl, ?_⟩
    refine wb_env [.sh (.adr a0), .sh ((eT eI) marks1), .sh (eI error2), .sh (eI x5.1), .sh (eI x5.2), .sh (eI i7)] rfl ?_
    -- 61
    refine wb_cons (ws_if ?_)
    refine wt_w ?_
    refine ww_orB ?_
    refine wt_cmp (nomark _) ?_
    refine we_var 3 rfl (by walk_at "vis") rfl ?_
    refine we_globI rfl m_MAX_MARKS ?_
    refine ⟨_, _, .inl rfl, .inl rfl, ?_⟩
    refine opw_eqI ?_
    refine ⟨_, rfl, ?_⟩
    refine ⟨(!(m_is_number x5.2 i7 (if (decide (x5.1 = (0 : Int))) = true then (0 : Int) else (300 : Int)))), fun _ => ?_, ?_⟩
    · skip
      refine ww_or1 ?_
      refine wt_not ?_
      refine wt_val (fun _ => rfl) ?_
      refine we_cal tk c_is_number hr rfl ?_
      refine wa_cons ?_
      refine we_var 4 rfl (by walk_at "vis") rfl ?_
      refine ⟨_, _, rfl, ?_⟩
      refine wa_cons ?_
      refine we_var 5 rfl (by walk_at "vis") rfl ?_
      refine ⟨_, _, rfl, ?_⟩
      refine wa_cons ?_
      refine we_ifP (en := eI) (va := (0 : Int)) (vb := (300 : Int)) ?_
      refine wt_cmp (nomark _) ?_
      refine we_var 3 rfl (by walk_at "vis") rfl ?_
      refine we_int ?_
      refine ⟨_, _, .inl rfl, .inl rfl, ?_⟩
      refine opw_eqI ?_
      refine ⟨_, rfl, ?_⟩
      refine ⟨fun _ => ?_, fun _ => ?_, ?_⟩
      · skip
        refine we_int ?_
        exact ⟨rfl, rfl, rfl⟩
      · skip
        refine we_globI rfl m_MAX_LENGTH ?_
        exact ⟨rfl, rfl, rfl⟩
      refine ⟨_, _, rfl, ?_⟩
      refine wa_nil ?_
      refine ⟨(x5.2, i7, if (decide (x5.1 = (0 : Int))) = true then (0 : Int) else (300 : Int)), rfl, ?_⟩
      refine ⟨_, rfl, ?_⟩
      exact ⟨rfl, rfl, rfl⟩
    refine ⟨fun hc => ?_, fun hc => ?_⟩
    · skip
      have h := (Out.iteb h).1 hc
      -- 62
      exact h.elim
    have h := (Out.iteb h).2 hc
    refine wb_nil ?_
    exact wb_nil ⟨(), (.eq (.eq (.eq (.no (.no (.no .nil)))))), rfl, h⟩
  -- 63
  refine wb_cons (ws_if ?_)
  refine wt_cmp (nomark _) ?_
  refine we_b1 (x := "len") (id := "len") rfl B.len bt_len ?_
  refine we_var 1 rfl (by walk_at "vis") rfl ?_
  refine ⟨_, .inl rfl, ?_⟩
  refine t_lenT (f := eI) marks1 ?_
  refine we_globI rfl m_MIN_MARKS ?_
  refine ⟨_, _, .inl rfl, .inl rfl, ?_⟩
  refine opw_lt ?_
  refine ⟨_, rfl, ?_⟩
  refine ⟨fun hc => ?_, fun hc => ?_⟩
  · skip
    have h := (Out.iteb h).1 hc
    -- 64
    exact h.elim
  have h := (Out.iteb h).2 hc
  refine wb_nil ?_
  -- 65
  refine wb_cons (ws_if ?_)
  refine wt_not ?_
  refine wt_val (fun _ => rfl) ?_
  refine we_cal tk c_is_number hr rfl ?_
  refine wa_cons ?_
  refine we_var 2 rfl (by walk_at "vis") rfl ?_
  refine ⟨_, _, rfl, ?_⟩
  refine wa_cons ?_
  refine we_int ?_
  refine ⟨_, _, rfl, ?_⟩
  refine wa_cons ?_
  refine we_globI rfl m_MAX_ERROR ?_
  refine ⟨_, _, rfl, ?_⟩
  refine wa_nil ?_
  refine ⟨(error2, (0 : Int), (9 : Int)), rfl, ?_⟩
  refine ⟨_, rfl, ?_⟩
  refine ⟨fun hc => ?_, fun hc => ?_⟩
  · skip
    have h := (Out.iteb h).1 hc
    -- 66
    exact h.elim
  have h := (Out.iteb h).2 hc
  refine wb_nil ?_
  exact wb_nil ⟨rfl, _, _, rfl, rfl, h⟩
theorem ok_Ruler_marks {f : Addr} {fd : FuncData} (F : Fun K "marks" "Ruler.marks" s_Ruler_marks f fd) (B : Bn mg) (cl_Ruler : Cl_Ruler K C_Ruler) : FnOk P w K mg base (L2.CX P w) 3 f fd ["self"] (spD K (FM cx (A := Rul) (R := List Int) (fun a => [(eRul C_Ruler) a]) (fun v => .sh ((eT eI) v)) (fun a => .ok (m_Ruler_marks a)))) := by
  refine def_ok F sc_Ruler_marks (fun ds G post px h => ?_) (fun cdv A outer s H E F0 T hr ds G post px h tk hp => ?_)
  · obtain ⟨_, rfl, _⟩ := h; rfl
  obtain ⟨self1, rfl, h⟩ := h
  unfold m_Ruler_marks at h
  try dsimp only at h
  have nd := sc_Ruler_marks.nd
  obtain ⟨q_Ruler_0, sl_Ruler_0⟩ := cl_Ruler.s0
  obtain ⟨q_Ruler_1, sl_Ruler_1⟩ := cl_Ruler.s1
  refine wb_env [.sh ((eRul C_Ruler) self1)] rfl ?_
  -- 72
  refine wb_cons (ws_ret ?_)
  refine we_fld 1 cl_Ruler.cls sl_Ruler_1 ?_
  refine we_var 0 rfl (by walk_at "vis") rfl ?_
  refine ⟨_, _, rfl, rfl, ?_⟩
  refine ⟨_, rfl, ?_⟩
  exact h
theorem ok_Ruler_error {f : Addr} {fd : FuncData} (F : Fun K "error" "Ruler.error" s_Ruler_error f fd) (B : Bn mg) (cl_Ruler : Cl_Ruler K C_Ruler) : FnOk P w K mg base (L2.CX P w) 3 f fd ["self"] (spD K (FM cx (A := Rul) (R := Int) (fun a => [(eRul C_Ruler) a]) (fun v => .sh (eI v)) (fun a => .ok (m_Ruler_error a)))) := by
  refine def_ok F sc_Ruler_error (fun ds G post px h => ?_) (fun cdv A outer s H E F0 T hr ds G post px h tk hp => ?_)
  · obtain ⟨_, rfl, _⟩ := h; rfl
  obtain ⟨self1, rfl, h⟩ := h
  unfold m_Ruler_error at h
  try dsimp only at h
  have nd := sc_Ruler_error.nd
  obtain ⟨q_Ruler_0, sl_Ruler_0⟩ := cl_Ruler.s0
  obtain ⟨q_Ruler_1, sl_Ruler_1⟩ := cl_Ruler.s1
  refine wb_env [.sh ((eRul C_Ruler) self1)] rfl ?_
  -- 76
  refine wb_cons (ws_ret ?_)
  refine we_fld 0 cl_Ruler.cls sl_Ruler_0 ?_
  refine we_var 0 rfl (by walk_at "vis") rfl ?_
  refine ⟨_, _, rfl, rfl, ?_⟩
  refine ⟨_, rfl, ?_⟩
  exact h
theorem ok_Ruler_length {f : Addr} {fd : FuncData} (F : Fun K "length" "Ruler.length" s_Ruler_length f fd) (B : Bn mg) (cl_Ruler : Cl_Ruler K C_Ruler) : FnOk P w K mg base (L2.CX P w) 3 f fd ["self"] (spD K (FM cx (A := Rul) (R := Int) (fun a => [(eRul C_Ruler) a]) (fun v => .sh (eI v)) (fun a => m_Ruler_length a))) := by
  refine def_ok F sc_Ruler_length (fun ds G post px h => ?_) (fun cdv A outer s H E F0 T hr ds G post px h tk hp => ?_)
  · obtain ⟨_, rfl, _⟩ := h; rfl
  obtain ⟨self1, rfl, h⟩ := h
  unfold m_Ruler_length at h
  try dsimp only at h
  have nd := sc_Ruler_length.nd
  obtain ⟨q_Ruler_0, sl_Ruler_0⟩ := cl_Ruler.s0
  obtain ⟨q_Ruler_1, sl_Ruler_1⟩ := cl_Ruler.s1
  refine wb_env [.sh ((eRul C_Ruler) self1)] rfl ?_
  -- 80
  refine wb_cons (ws_ret ?_)
  refine we_ix (fun _ _ => rfl) ?_
  refine we_fld 1 cl_Ruler.cls sl_Ruler_1 ?_
  refine we_var 0 rfl (by walk_at "vis") rfl ?_
  refine ⟨_, _, rfl, rfl, ?_⟩
  refine we_un rfl ?_
  refine we_int ?_
  refine ⟨_, rfl, ?_⟩
  obtain ⟨x2, hx2, h⟩ := Out.gt h
  refine ⟨_, _, .inl rfl, .inl rfl, ?_⟩
  refine t_ixT (f := eI) hx2 ?_
  refine ⟨_, rfl, ?_⟩
  exact h
theorem ok_Ruler_len {f : Addr} {fd : FuncData} (F : Fun K "__len__" "Ruler.__len__" s_Ruler_len f fd) (B : Bn mg) (cl_Ruler : Cl_Ruler K C_Ruler) : FnOk P w K mg base (L2.CX P w) 3 f fd ["self"] (spD K (FM cx (A := Rul) (R := Int) (fun a => [(eRul C_Ruler) a]) (fun v => .sh (eI v)) (fun a => .ok (m_Ruler___len a)))) := by
  refine def_ok F sc_Ruler_len (fun ds G post px h => ?_) (fun cdv A outer s H E F0 T hr ds G post px h tk hp => ?_)
  · obtain ⟨_, rfl, _⟩ := h; rfl
  obtain ⟨self1, rfl, h⟩ := h
  unfold m_Ruler___len at h
  try dsimp only at h
  have nd := sc_Ruler_len.nd
  obtain ⟨q_Ruler_0, sl_Ruler_0⟩ := cl_Ruler.s0
  obtain ⟨q_Ruler_1, sl_Ruler_1⟩ := cl_Ruler.s1
  refine wb_env [.sh ((eRul C_Ruler) self1)] rfl ?_
  -- 91
  refine wb_cons (ws_ret ?_)
  refine we_b1 (x := "len") (id := "len") rfl B.len bt_len ?_
  refine we_fld 1 cl_Ruler.cls sl_Ruler_1 ?_
  refine we_var 0 rfl (by walk_at "vis") rfl ?_
  refine ⟨_, _, rfl, rfl, ?_⟩
  refine ⟨_, .inl rfl, ?_⟩
  refine t_lenT (f := eI) self1.marks ?_
  refine ⟨_, rfl, ?_⟩
  exact h
theorem ok_Ruler_eq {f : Addr} {fd : FuncData} (F : Fun K "__eq__" "Ruler.__eq__" s_Ruler_eq f fd) (B : Bn mg) (cl_Ruler : Cl_Ruler K C_Ruler) (mc_Ruler : mg "Ruler" = some (.ref C_Ruler)) (p_Ruler_error : PropD P w K mg base C_Ruler "error" 3 (FM cx (A := Rul) (R := Int) (fun a => [(eRul C_Ruler) a]) (fun v => .sh (eI v)) (fun a => .ok (m_Ruler_error a)))) (p_Ruler_marks : PropD P w K mg base C_Ruler "marks" 3 (FM cx (A := Rul) (R := List Int) (fun a => [(eRul C_Ruler) a]) (fun v => .sh ((eT eI) v)) (fun a => .ok (m_Ruler_marks a)))) : FnOk P w K mg base (L2.CX P w) 6 f fd ["self", "other"] (spD K (FM cx (A := Rul × Rul) (R := Bool) (fun a => [(eRul C_Ruler) a.1, (eRul C_Ruler) a.2]) (fun v => .sh (eB v)) (fun a => .ok (m_Ruler___eq a.1 a.2)))) := by
  refine def_ok F sc_Ruler_eq (fun ds G post px h => ?_) (fun cdv A outer s H E F0 T hr ds G post px h tk hp => ?_)
  · obtain ⟨_, rfl, _⟩ := h; rfl
  obtain ⟨⟨self1, other2⟩, rfl, h⟩ := h
  unfold m_Ruler___eq at h
  try dsimp only at h
  have nd := sc_Ruler_eq.nd
  obtain ⟨q_Ruler_0, sl_Ruler_0⟩ := cl_Ruler.s0
  obtain ⟨q_Ruler_1, sl_Ruler_1⟩ := cl_Ruler.s1
  refine wb_env [.sh ((eRul C_Ruler) self1), .sh ((eRul C_Ruler) other2)] rfl ?_
  -- 94
  refine wb_cons (ws_ret ?_)
  refine we_andP (c2 := (decide (self1.marks = (m_Ruler_marks other2))) && (decide (self1.error = m_Ruler_error other2))) ?_
  refine we_isiI rfl B.isinstance bt_isinstance rfl mc_Ruler cl_Ruler.cls cl_Ruler.isi ?_
  refine we_var 1 rfl (by walk_at "vis") rfl ?_
  refine ⟨_, _, rfl, cl_Ruler.same, ?_⟩
  refine ⟨_, rfl, fun _ => ?_, ?_⟩
  · skip
    refine we_andP (c2 := decide (self1.error = m_Ruler_error other2)) ?_
    refine we_cmp (nomark _) ?_
    refine we_fld 1 cl_Ruler.cls sl_Ruler_1 ?_
    refine we_var 0 rfl (by walk_at "vis") rfl ?_
    refine ⟨_, _, rfl, rfl, ?_⟩
    refine we_prop cl_Ruler.cls p_Ruler_marks hr ?_
    refine we_var 1 rfl (by walk_at "vis") rfl ?_
    refine ⟨_, rfl, other2, rfl, ?_⟩
    refine ⟨_, _, .inl rfl, .inl rfl, ?_⟩
    refine opw_eqC (eqc_tup eqc_int) hr.units self1.marks (m_Ruler_marks other2) ?_
    refine ⟨_, rfl, fun _ => ?_, ?_⟩
    · skip
      refine we_one ?_
      refine we_cmp (nomark _) ?_
      refine we_fld 0 cl_Ruler.cls sl_Ruler_0 ?_
      refine we_var 0 rfl (by walk_at "vis") rfl ?_
      refine ⟨_, _, rfl, rfl, ?_⟩
      refine we_prop cl_Ruler.cls p_Ruler_error hr ?_
      refine we_var 1 rfl (by walk_at "vis") rfl ?_
      refine ⟨_, rfl, other2, rfl, ?_⟩
      refine ⟨_, _, .inl rfl, .inl rfl, ?_⟩
      refine opw_eqI ?_
      exact ⟨rfl, rfl, rfl⟩
    exact ⟨rfl, rfl, rfl⟩
  refine ⟨_, rfl, ?_⟩
  exact h
theorem ok_spread_of {f : Addr} {fd : FuncData} (F : Fun K "spread_of" "spread_of" s_spread_of f fd) (B : Bn mg) : FnOk P w K mg base (L2.CX P w) 3 f fd ["marks"] (spD K (FM cx (A := List Int) (R := List Int) (fun a => [(eT eI) a]) (fun v => .fr ((eL eI) v)) (fun a => m_spread_of a))) := by
  refine def_ok F sc_spread_of (fun ds G post px h => ?_) (fun cdv A outer s H E F0 T hr ds G post px h tk hp => ?_)
  · obtain ⟨_, rfl, _⟩ := h; rfl
  obtain ⟨marks1, rfl, h⟩ := h
  unfold m_spread_of at h
  try dsimp only at h
  have nd := sc_spread_of.nd
  refine wb_env [.sh ((eT eI) marks1), .no, .no, .no, .no] rfl ?_
  -- 51
  refine wb_cons (ws_set 1 nd rfl (by walk_at "vis") ?_)
  refine we_lst ?_
  refine wa_nil ?_
  refine ⟨by decide, ?_⟩
  refine ⟨lt_ rfl, _, rfl, ?_⟩
  refine wb_let h (fun found2 => [.sh ((eT eI) marks1), .own ((eL eI) found2), .no, .no, .no]) rfl fun found2 h => ?_
  -- 52
  refine wb_forO (β := List Int) [2, 3] (σT := List Int) (fun s3 => [.sh ((eT eI) marks1), .own ((eL eI) s3), .no, .no, .no]) (fun s3 => G) (eP eI eI) hp rfl ?_
  refine ti_enumT (f := eI) rfl B.enumerate ?_
  refine we_var 0 rfl (by walk_at "vis") rfl ?_
  refine ⟨marks1, _, rfl, fun hl6 => ?_⟩
  refine ⟨(penum marks1), found2, _, _, _, _, rfl, (.eq (.eq (.no (.no (.no .nil))))), rfl, h, fun s3 x5 Q' h => ?_, fun s4 h => ?_⟩
  · skip
    refine wg_pair 2 3 rfl nd rfl rfl (by walk_at "vis") (by walk_at "vis") (by decide) (by decide) (lt_ rfl) (lt_ rfl) ?_
    refine wb_env [.sh ((eT eI) marks1), .own ((eL eI) s3), .sh (eI x5.1), .sh (eI x5.2), .no] rfl ?_
    -- 53
    refine wb_cons (ws_expr ?_)
    refine we_extendT (f := eI) ?_
    refine we_var 1 rfl (by walk_at "vis") rfl ?_
    refine ⟨_, s3, rfl, rfl, ?_⟩
    refine we_lcQ [("other", 4)] rfl nd (blkOk_by (by rfl)) (lc0_pre [("other", 4)] [.sh ((eT eI) marks1), .own ((eL eI) s3), .sh (eI x5.1), .sh (eI x5.2), .no] (en := eI) eI (fun (x8 : Int) => x8 - x5.2) ?_)
    refine ti_tup (f := eI) ?_
    refine we_slice ?_
    refine we_var 0 rfl (by walk_at "vis") rfl ?_
    refine wo_some ?_
    refine we_bin ?_
    refine we_var 2 rfl (by walk_at "vis") rfl ?_
    refine we_int ?_
    refine ⟨_, _, .inl rfl, .inl rfl, ?_⟩
    refine opw_add ?_
    refine ⟨_, rfl, ?_⟩
    refine wo_none ?_
    refine ⟨_, .inl rfl, ?_⟩
    refine t_slT (f := eI) (xs := marks1) ?_
    refine ⟨(pcut marks1 (some (x5.1 + (1 : Int))) none), _, rfl, fun hl9 => ?_⟩
    refine ⟨(pcut marks1 (some (x5.1 + (1 : Int))) none), rfl, hl9, Wk.refl _, fun x8 => ?_, ?_⟩
    · skip
      rintro Y ⟨s1, H1, C1, cl, fp, rfl⟩
      refine wg_name 4 nd rfl (by walk_at "vis") (by decide) (lt_ rfl) ?_
      rintro Y ⟨s1, H1, C1, cl, fp, rfl⟩
      refine we_bin ?_
      refine we_var 4 rfl (by walk_at "vis") rfl ?_
      refine we_var 3 rfl (by walk_at "vis") rfl ?_
      refine ⟨_, _, .inl rfl, .inl rfl, ?_⟩
      refine opw_sub ?_
      exact ⟨_, rfl, Wk.refl _, rfl⟩
    obtain ⟨g10, h⟩ := Out.gd h
    refine ⟨((pcut marks1 (some (x5.1 + (1 : Int))) none).map (fun (x8 : Int) => x8 - x5.2)), _, s3, rfl, rfl, g10, ?_⟩
    refine wb_let h (fun found11 => [.sh ((eT eI) marks1), .own ((eL eI) found11), .sh (eI x5.1), .sh (eI x5.2), .no]) rfl fun found11 h => ?_
    exact wb_nil ⟨found11, (.eq (.eq (.no (.no (.no .nil))))), rfl, h⟩
  -- 54
  refine wb_cons (ws_ret ?_)
  refine we_b1 (x := "sorted") (id := "sorted") rfl B.sorted bt_sorted ?_
  refine we_var 1 rfl (by walk_at "vis") rfl ?_
  refine ⟨_, .inl rfl, ?_⟩
  refine c_sorted (ns := s4) ?_
  refine ⟨_, rfl, ?_⟩
  exact h
theorem ok_spread_of_l {f : Addr} {fd : FuncData} (F : Fun K "spread_of" "spread_of" s_spread_of f fd) (B : Bn mg) : FnOk P w K mg base (L2.CX P w) 3 f fd ["marks"] (spD K (FM cx (A := List Int) (R := List Int) (fun a => [(eL eI) a]) (fun v => .fr ((eL eI) v)) (fun a => m_spread_of_l a))) := by
  refine def_ok F sc_spread_of (fun ds G post px h => ?_) (fun cdv A outer s H E F0 T hr ds G post px h tk hp => ?_)
  · obtain ⟨_, rfl, _⟩ := h; rfl
  obtain ⟨marks1, rfl, h⟩ := h
  unfold m_spread_of_l at h
  try dsimp only at h
  have nd := sc_spread_of.nd
  refine wb_env [.sh ((eL eI) marks1), .no, .no, .no, .no] rfl ?_
  -- 51
  refine wb_cons (ws_set 1 nd rfl (by walk_at "vis") ?_)
  refine we_lst ?_
  refine wa_nil ?_
  refine ⟨by decide, ?_⟩
  refine ⟨lt_ rfl, _, rfl, ?_⟩
  refine wb_let h (fun found2 => [.sh ((eL eI) marks1), .own ((eL eI) found2), .no, .no, .no]) rfl fun found2 h => ?_
  -- 52
  refine wb_forO (β := List Int) [2, 3] (σT := List Int) (fun s3 => [.sh ((eL eI) marks1), .own ((eL eI) s3), .no, .no, .no]) (fun s3 => G) (eP eI eI) hp rfl ?_
  refine ti_enumL (f := eI) rfl B.enumerate ?_
  refine we_var 0 rfl (by walk_at "vis") rfl ?_
  refine ⟨marks1, _, rfl, fun hl6 => ?_⟩
  refine ⟨(penum marks1), found2, _, _, _, _, rfl, (.eq (.eq (.no (.no (.no .nil))))), rfl, h, fun s3 x5 Q' h => ?_, fun s4 h => ?_⟩
  · skip
    refine wg_pair 2 3 rfl nd rfl rfl (by walk_at "vis") (by walk_at "vis") (by decide) (by decide) (lt_ rfl) (lt_ rfl) ?_
    refine wb_env [.sh ((eL eI) marks1), .own ((eL eI) s3), .sh (eI x5.1), .sh (eI x5.2), .no] rfl ?_
    -- 53
    refine wb_cons (ws_expr ?_)
    refine we_extendT (f := eI) ?_
    refine we_var 1 rfl (by walk_at "vis") rfl ?_
    refine ⟨_, s3, rfl, rfl, ?_⟩
    refine we_lcQ [("other", 4)] rfl nd (blkOk_by (by rfl)) (lc0_pre [("other", 4)] [.sh ((eL eI) marks1), .own ((eL eI) s3), .sh (eI x5.1), .sh (eI x5.2), .no] (en := eI) eI (fun (x8 : Int) => x8 - x5.2) ?_)
    refine ti_lst (f := eI) ?_
    refine we_slice ?_
    refine we_var 0 rfl (by walk_at "vis") rfl ?_
    refine wo_some ?_
    refine we_bin ?_
    refine we_var 2 rfl (by walk_at "vis") rfl ?_
    refine we_int ?_
    refine ⟨_, _, .inl rfl, .inl rfl, ?_⟩
    refine opw_add ?_
    refine ⟨_, rfl, ?_⟩
    refine wo_none ?_
    refine ⟨_, .inl rfl, ?_⟩
    refine t_sl (f := eI) (xs := marks1) ?_
    refine ⟨(pcut marks1 (some (x5.1 + (1 : Int))) none), _, rfl, fun hl9 => ?_⟩
    refine ⟨(pcut marks1 (some (x5.1 + (1 : Int))) none), rfl, hl9, Wk.refl _, fun x8 => ?_, ?_⟩
    · skip
      rintro Y ⟨s1, H1, C1, cl, fp, rfl⟩
      refine wg_name 4 nd rfl (by walk_at "vis") (by decide) (lt_ rfl) ?_
      rintro Y ⟨s1, H1, C1, cl, fp, rfl⟩
      refine we_bin ?_
      refine we_var 4 rfl (by walk_at "vis") rfl ?_
      refine we_var 3 rfl (by walk_at "vis") rfl ?_
      refine ⟨_, _, .inl rfl, .inl rfl, ?_⟩
      refine opw_sub ?_
      exact ⟨_, rfl, Wk.refl _, rfl⟩
    obtain ⟨g10, h⟩ := Out.gd h
    refine ⟨((pcut marks1 (some (x5.1 + (1 : Int))) none).map (fun (x8 : Int) => x8 - x5.2)), _, s3, rfl, rfl, g10, ?_⟩
    refine wb_let h (fun found11 => [.sh ((eL eI) marks1), .own ((eL eI) found11), .sh (eI x5.1), .sh (eI x5.2), .no]) rfl fun found11 h => ?_
    exact wb_nil ⟨found11, (.eq (.eq (.no (.no (.no .nil))))), rfl, h⟩
  -- 54
  refine wb_cons (ws_ret ?_)
  refine we_b1 (x := "sorted") (id := "sorted") rfl B.sorted bt_sorted ?_
  refine we_var 1 rfl (by walk_at "vis") rfl ?_
  refine ⟨_, .inl rfl, ?_⟩
  refine c_sorted (ns := s4) ?_
  refine ⟨_, rfl, ?_⟩
  exact h
theorem ok_spans_at {f : Addr} {fd : FuncData} (F : Fun K "spans_at" "spans_at" s_spans_at f fd) (B : Bn mg) (c_spread_of_l : Cal P w K mg base "spread_of" 3 ["marks"] (FM cx (A := List Int) (R := List Int) (fun a => [(eL eI) a]) (fun v => .fr ((eL eI) v)) (fun a => m_spread_of_l a))) (cl_Ruler : Cl_Ruler K C_Ruler) (p_Ruler_marks : PropD P w K mg base C_Ruler "marks" 3 (FM cx (A := Rul) (R := List Int) (fun a => [(eRul C_Ruler) a]) (fun v => .sh ((eT eI) v)) (fun a => .ok (m_Ruler_marks a)))) : FnOk P w K mg base (L2.CX P w) 6 f fd ["one", "other", "shift"] (spD K (FM cx (A := Rul × Rul × Int) (R := List Int) (fun a => [(eRul C_Ruler) a.1, (eRul C_Ruler) a.2.1, eI a.2.2]) (fun v => .fr ((eL eI) v)) (fun a => m_spans_at a.1 a.2.1 a.2.2))) := by
  refine def_ok F sc_spans_at (fun ds G post px h => ?_) (fun cdv A outer s H E F0 T hr ds G post px h tk hp => ?_)
  · obtain ⟨_, rfl, _⟩ := h; rfl
  obtain ⟨⟨one1, other2, shift3⟩, rfl, h⟩ := h
  unfold m_spans_at at h
  try dsimp only at h
  have nd := sc_spans_at.nd
  obtain ⟨q_Ruler_0, sl_Ruler_0⟩ := cl_Ruler.s0
  obtain ⟨q_Ruler_1, sl_Ruler_1⟩ := cl_Ruler.s1
  refine wb_env [.sh ((eRul C_Ruler) one1), .sh ((eRul C_Ruler) other2), .sh (eI shift3), .no, .no, .no] rfl ?_
  -- 101
  refine wb_cons (ws_set 3 nd rfl (by walk_at "vis") ?_)
  refine we_b1 (x := "sorted") (id := "sorted") rfl B.sorted bt_sorted ?_
  refine we_lock ?_
  refine we_mrgT (k := kI) (f := eB) kI_inj ?_
  refine we_lock ?_
  refine we_dc0 [("mark", 5)] [.sh ((eRul C_Ruler) one1), .sh ((eRul C_Ruler) other2), .sh (eI shift3), .no, .no, .no] (en := eI) kI eB kI_inj (fun (x4 : Int) => (x4, true)) rfl nd (blkOk_by (by rfl)) ?_
  refine ti_tup (f := eI) ?_
  refine we_prop cl_Ruler.cls p_Ruler_marks hr ?_
  refine we_var 0 rfl (by walk_at "vis") rfl ?_
  refine ⟨_, rfl, one1, rfl, ?_⟩
  refine ⟨(m_Ruler_marks one1), _, rfl, fun hl6 => ?_⟩
  refine ⟨(m_Ruler_marks one1), rfl, hl6, Wk.refl _, fun x4 => ?_, ?_⟩
  · skip
    rintro Y ⟨s1, H1, C1, cl, fp, rfl⟩
    refine wg_name 5 nd rfl (by walk_at "vis") (by decide) (lt_ rfl) ?_
    rintro Y ⟨s1, H1, C1, cl, fp, rfl⟩
    refine we_var 5 rfl (by walk_at "vis") rfl ?_
    refine ⟨rfl, ?_⟩
    rintro Y ⟨s1, H1, C1, cl, fp, rfl⟩
    refine we_bl ?_
    exact ⟨_, rfl, Wk.refl _, rfl⟩
  refine ⟨_, _, rfl, ?_⟩
  obtain ⟨g7, h⟩ := Out.gd h
  refine ⟨(dmk ((m_Ruler_marks one1).map (fun (x4 : Int) => (x4, true)))), _, rfl, g7, ?_⟩
  refine we_lock ?_
  refine we_dc0 [("mark", 5)] [.sh ((eRul C_Ruler) one1), .sh ((eRul C_Ruler) other2), .sh (eI shift3), .no, .no, .no] (en := eI) kI eB kI_inj (fun (x8 : Int) => (x8 + shift3, true)) rfl nd (blkOk_by (by rfl)) ?_
  refine ti_tup (f := eI) ?_
  refine we_prop cl_Ruler.cls p_Ruler_marks hr ?_
  refine we_var 1 rfl (by walk_at "vis") rfl ?_
  refine ⟨_, rfl, other2, rfl, ?_⟩
  refine ⟨(m_Ruler_marks other2), _, rfl, fun hl10 => ?_⟩
  refine ⟨(m_Ruler_marks other2), rfl, hl10, Wk.refl _, fun x8 => ?_, ?_⟩
  · skip
    rintro Y ⟨s1, H1, C1, cl, fp, rfl⟩
    refine wg_name 5 nd rfl (by walk_at "vis") (by decide) (lt_ rfl) ?_
    rintro Y ⟨s1, H1, C1, cl, fp, rfl⟩
    refine we_bin ?_
    refine we_var 5 rfl (by walk_at "vis") rfl ?_
    refine we_var 2 rfl (by walk_at "vis") rfl ?_
    refine ⟨_, _, .inl rfl, .inl rfl, ?_⟩
    refine opw_add ?_
    refine ⟨rfl, ?_⟩
    rintro Y ⟨s1, H1, C1, cl, fp, rfl⟩
    refine we_bl ?_
    exact ⟨_, rfl, Wk.refl _, rfl⟩
  refine ⟨_, _, rfl, ?_⟩
  obtain ⟨g11, h⟩ := Out.gd h
  refine ⟨(dmk ((m_Ruler_marks other2).map (fun (x8 : Int) => (x8 + shift3, true)))), _, rfl, g11, ?_⟩
  refine ⟨_, _, rfl, ?_⟩
  refine ⟨_, .inl rfl, ?_⟩
  refine t_sortedD (f := eB) (dmk ((dmk ((m_Ruler_marks one1).map (fun (x4 : Int) => (x4, true)))) ++ (dmk ((m_Ruler_marks other2).map (fun (x8 : Int) => (x8 + shift3, true)))))) rfl ?_
  refine ⟨lt_ rfl, _, rfl, ?_⟩
  refine wb_let h (fun marks12 => [.sh ((eRul C_Ruler) one1), .sh ((eRul C_Ruler) other2), .sh (eI shift3), .own ((eL eI) marks12), .no, .no]) rfl fun marks12 h => ?_
  -- 102
  refine wb_cons (ws_ret ?_)
  refine we_b1 (x := "sorted") (id := "sorted") rfl B.sorted bt_sorted ?_
  refine we_lock ?_
  refine we_dc0 [("span", 4)] [.sh ((eRul C_Ruler) one1), .sh ((eRul C_Ruler) other2), .sh (eI shift3), .sh ((eL eI) marks12), .no, .no] (en := eI) kI eB kI_inj (fun (x13 : Int) => (x13, true)) rfl nd (blkOk_by (by rfl)) ?_
  refine ti_lst (f := eI) ?_
  refine we_cal tk c_spread_of_l hr rfl ?_
  refine wa_cons ?_
  refine we_var 3 rfl (by walk_at "vis") rfl ?_
  refine ⟨_, _, rfl, ?_⟩
  refine wa_nil ?_
  refine ⟨marks12, rfl, (Out.sb h).imp (fun r14 h => ?_) (fun _ he => he)⟩
  refine ⟨r14, _, rfl, fun hl15 => ?_⟩
  refine ⟨r14, rfl, hl15, Wk.refl _, fun x13 => ?_, ?_⟩
  · skip
    rintro Y ⟨s1, H1, C1, cl, fp, rfl⟩
    refine wg_name 4 nd rfl (by walk_at "vis") (by decide) (lt_ rfl) ?_
    rintro Y ⟨s1, H1, C1, cl, fp, rfl⟩
    refine we_var 4 rfl (by walk_at "vis") rfl ?_
    refine ⟨rfl, ?_⟩
    rintro Y ⟨s1, H1, C1, cl, fp, rfl⟩
    refine we_bl ?_
    exact ⟨_, rfl, Wk.refl _, rfl⟩
  refine ⟨_, _, rfl, ?_⟩
  refine ⟨_, .inl rfl, ?_⟩
  refine t_sortedD (f := eB) (dmk (r14.map (fun (x13 : Int) => (x13, true)))) rfl ?_
  refine ⟨_, rfl, ?_⟩
  exact h
theorem ok_joint_spans {f : Addr} {fd : FuncData} (F : Fun K "joint_spans" "joint_spans" s_joint_spans f fd) (B : Bn mg) (c_is_number : Cal P w K mg base "is_number" 3 ["value", "lowest", "highest"] (FM cx (A := Int × Int × Int) (R := Bool) (fun a => [eI a.1, eI a.2.1, eI a.2.2]) (fun v => .sh (eB v)) (fun a => .ok (m_is_number a.1 a.2.1 a.2.2)))) (c_spans_at : Cal P w K mg base "spans_at" 6 ["one", "other", "shift"] (FM cx (A := Rul × Rul × Int) (R := List Int) (fun a => [(eRul C_Ruler) a.1, (eRul C_Ruler) a.2.1, eI a.2.2]) (fun v => .fr ((eL eI) v)) (fun a => m_spans_at a.1 a.2.1 a.2.2))) {t_MAX_SHIFT : Tok} (m_MAX_SHIFT : mg "MAX_SHIFT" = some (.int 300 t_MAX_SHIFT)) (xc_InvalidNumber : XC K mg "InvalidNumber" (cx 6)) : FnOk P w K mg base (L2.CX P w) 8 f fd ["one", "other", "shift"] (spD K (FM cx (A := Rul × Rul × Int) (R := List Int) (fun a => [(eRul C_Ruler) a.1, (eRul C_Ruler) a.2.1, eI a.2.2]) (fun v => .fr ((eL eI) v)) (fun a => m_joint_spans a.1 a.2.1 a.2.2))) := by
  refine def_ok F sc_joint_spans (fun ds G post px h => ?_) (fun cdv A outer s H E F0 T hr ds G post px h tk hp => ?_)
  · obtain ⟨_, rfl, _⟩ := h; rfl
  obtain ⟨⟨one1, other2, shift3⟩, rfl, h⟩ := h
  unfold m_joint_spans at h
  try dsimp only at h
  have nd := sc_joint_spans.nd
  refine wb_env [.sh ((eRul C_Ruler) one1), .sh ((eRul C_Ruler) other2), .sh (eI shift3)] rfl ?_
  -- 104
  refine wb_cons (ws_if ?_)
  refine wt_not ?_
  refine wt_val (fun _ => rfl) ?_
  refine we_cal tk c_is_number hr rfl ?_
  refine wa_cons ?_
  refine we_var 2 rfl (by walk_at "vis") rfl ?_
  refine ⟨_, _, rfl, ?_⟩
  refine wa_cons ?_
  refine we_bin ?_
  refine we_int ?_
  refine we_globI rfl m_MAX_SHIFT ?_
  refine ⟨_, _, .inl rfl, .inl rfl, ?_⟩
  refine opw_sub ?_
  refine ⟨_, _, rfl, ?_⟩
  refine wa_cons ?_
  refine we_globI rfl m_MAX_SHIFT ?_
  refine ⟨_, _, rfl, ?_⟩
  refine wa_nil ?_
  refine ⟨(shift3, (0 : Int) - (300 : Int), (300 : Int)), rfl, ?_⟩
  refine ⟨_, rfl, ?_⟩
  refine ⟨fun hc => ?_, fun hc => ?_⟩
  · skip
    have h := (Out.iteb h).1 hc
    -- 105
    exact wb_cons (ws_raise1 xc_InvalidNumber rfl tk rfl h)
  have h := (Out.iteb h).2 hc
  refine wb_nil ?_
  -- 106
  refine wb_cons (ws_ret ?_)
  refine we_cal tk c_spans_at hr rfl ?_
  refine wa_cons ?_
  refine we_var 0 rfl (by walk_at "vis") rfl ?_
  refine ⟨_, _, rfl, ?_⟩
  refine wa_cons ?_
  refine we_var 1 rfl (by walk_at "vis") rfl ?_
  refine ⟨_, _, rfl, ?_⟩
  refine wa_cons ?_
  refine we_var 2 rfl (by walk_at "vis") rfl ?_
  refine ⟨_, _, rfl, ?_⟩
  refine wa_nil ?_
  refine ⟨(one1, other2, shift3), rfl, (Out.sb h).imp (fun r5 h => ?_) (fun _ he => he)⟩
  refine ⟨_, rfl, ?_⟩
  exact h
theorem ok_best_shift {f : Addr} {fd : FuncData} (F : Fun K "best_shift" "best_shift" s_best_shift f fd) (B : Bn mg) (c_is_number : Cal P w K mg base "is_number" 3 ["value", "lowest", "highest"] (FM cx (A := Int × Int × Int) (R := Bool) (fun a => [eI a.1, eI a.2.1, eI a.2.2]) (fun v => .sh (eB v)) (fun a => .ok (m_is_number a.1 a.2.1 a.2.2)))) (c_spans_at : Cal P w K mg base "spans_at" 6 ["one", "other", "shift"] (FM cx (A := Rul × Rul × Int) (R := List Int) (fun a => [(eRul C_Ruler) a.1, (eRul C_Ruler) a.2.1, eI a.2.2]) (fun v => .fr ((eL eI) v)) (fun a => m_spans_at a.1 a.2.1 a.2.2))) {t_MAX_SHIFT : Tok} (m_MAX_SHIFT : mg "MAX_SHIFT" = some (.int 300 t_MAX_SHIFT)) (xc_InvalidNumber : XC K mg "InvalidNumber" (cx 6)) : FnOk P w K mg base (L2.CX P w) 8 f fd ["one", "other", "lowest", "highest"] (spD K (FM cx (A := Rul × Rul × Int × Int) (R := Int) (fun a => [(eRul C_Ruler) a.1, (eRul C_Ruler) a.2.1, eI a.2.2.1, eI a.2.2.2]) (fun v => .sh (eI v)) (fun a => m_best_shift a.1 a.2.1 a.2.2.1 a.2.2.2))) := by
  refine def_ok F sc_best_shift (fun ds G post px h => ?_) (fun cdv A outer s H E F0 T hr ds G post px h tk hp => ?_)
  · obtain ⟨_, rfl, _⟩ := h; rfl
  obtain ⟨⟨one1, other2, lowest3, highest4⟩, rfl, h⟩ := h
  unfold m_best_shift at h
  try dsimp only at h
  have nd := sc_best_shift.nd
  refine wb_env [.sh ((eRul C_Ruler) one1), .sh ((eRul C_Ruler) other2), .sh (eI lowest3), .sh (eI highest4), .no, .no] rfl ?_
  -- 108
  refine wb_cons (ws_if ?_)
  refine wt_w ?_
  refine ww_orB ?_
  refine wt_not ?_
  refine wt_val (fun _ => rfl) ?_
  refine we_cal tk c_is_number hr rfl ?_
  refine wa_cons ?_
  refine we_var 2 rfl (by walk_at "vis") rfl ?_
  refine ⟨_, _, rfl, ?_⟩
  refine wa_cons ?_
  refine we_bin ?_
  refine we_int ?_
  refine we_globI rfl m_MAX_SHIFT ?_
  refine ⟨_, _, .inl rfl, .inl rfl, ?_⟩
  refine opw_sub ?_
  refine ⟨_, _, rfl, ?_⟩
  refine wa_cons ?_
  refine we_globI rfl m_MAX_SHIFT ?_
  refine ⟨_, _, rfl, ?_⟩
  refine wa_nil ?_
  refine ⟨(lowest3, (0 : Int) - (300 : Int), (300 : Int)), rfl, ?_⟩
  refine ⟨_, rfl, ?_⟩
  refine ⟨(!(m_is_number highest4 lowest3 (300 : Int))), fun _ => ?_, ?_⟩
  · skip
    refine ww_or1 ?_
    refine wt_not ?_
    refine wt_val (fun _ => rfl) ?_
    refine we_cal tk c_is_number hr rfl ?_
    refine wa_cons ?_
    refine we_var 3 rfl (by walk_at "vis") rfl ?_
    refine ⟨_, _, rfl, ?_⟩
    refine wa_cons ?_
    refine we_var 2 rfl (by walk_at "vis") rfl ?_
    refine ⟨_, _, rfl, ?_⟩
    refine wa_cons ?_
    refine we_globI rfl m_MAX_SHIFT ?_
    refine ⟨_, _, rfl, ?_⟩
    refine wa_nil ?_
    refine ⟨(highest4, lowest3, (300 : Int)), rfl, ?_⟩
    refine ⟨_, rfl, ?_⟩
    exact ⟨rfl, rfl, rfl⟩
  refine ⟨fun hc => ?_, fun hc => ?_⟩
  · skip
    have h := (Out.iteb h).1 hc
    -- 109
    exact wb_cons (ws_raise1 xc_InvalidNumber rfl tk rfl h)
  have h := (Out.iteb h).2 hc
  refine wb_nil ?_
  -- 110
  refine wb_setLcQ [("shift", 5)] 4 rfl nd rfl rfl (by rfl) (blkOk_by (by rfl)) (lcS_preP (γ := Int) [("shift", 5)] [.sh ((eRul C_Ruler) one1), .sh ((eRul C_Ruler) other2), .sh (eI lowest3), .sh (eI highest4), .no, .no] (fun _ : Unit => G) (en := eI) eI ?_)
  refine wi_rng2 rfl B.range ?_
  refine we_var 2 rfl (by walk_at "vis") rfl ?_
  refine we_bin ?_
  refine we_var 3 rfl (by walk_at "vis") rfl ?_
  refine we_int ?_
  refine ⟨_, _, .inl rfl, .inl rfl, ?_⟩
  refine opw_add ?_
  obtain ⟨g8, h⟩ := Out.gd h
  obtain ⟨g9, h⟩ := Out.gd h
  refine ⟨lowest3, (highest4 + (1 : Int)), rfl, rfl, g8, g9, ?_⟩
  obtain ⟨g10, h⟩ := Out.gd h
  refine ⟨(rgI lowest3 (highest4 + (1 : Int))), (), _, _, _, _, rfl, g10, Wk.refl _, rfl, h, fun s11 x7 Q' h => ?_, fun l12 h => ?_⟩
  · skip
    rintro Y ⟨s1, H1, C1, cl, fp, rfl⟩
    refine wg_name 5 nd rfl (by walk_at "vis") (by decide) (lt_ rfl) ?_
    rintro Y ⟨s1, H1, C1, cl, fp, rfl⟩
    refine we_b1 (x := "len") (id := "len") rfl B.len bt_len ?_
    refine we_cal (BlkX.tk ⟨_, _, _, _, _, rfl⟩) c_spans_at hr rfl ?_
    refine wa_cons ?_
    refine we_var 0 rfl (by walk_at "vis") rfl ?_
    refine ⟨_, _, rfl, ?_⟩
    refine wa_cons ?_
    refine we_var 1 rfl (by walk_at "vis") rfl ?_
    refine ⟨_, _, rfl, ?_⟩
    refine wa_cons ?_
    refine we_var 5 rfl (by walk_at "vis") rfl ?_
    refine ⟨_, _, rfl, ?_⟩
    refine wa_nil ?_
    refine ⟨(one1, other2, x7), rfl, (Out.nx (Out.sb h)).imp (fun r13 h => ?_) (fun _ he => he)⟩
    refine ⟨_, .inl rfl, ?_⟩
    refine t_len (f := eI) r13 ?_
    exact ⟨((r13).length : Int), (), _, rfl, Wk.refl _, rfl, h⟩
  refine ⟨lt_ rfl, _, rfl, ?_⟩
  refine wb_env [.sh ((eRul C_Ruler) one1), .sh ((eRul C_Ruler) other2), .sh (eI lowest3), .sh (eI highest4), .own ((eL eI) l12.1), .no] rfl ?_
  -- 111
  refine wb_cons (ws_ret ?_)
  refine we_bin ?_
  refine we_var 2 rfl (by walk_at "vis") rfl ?_
  refine we_index ?_
  refine we_var 4 rfl (by walk_at "vis") rfl ?_
  refine ⟨_, .inl rfl, ?_⟩
  refine we_b1 (x := "max") (id := "max") rfl B.max bt_max ?_
  refine we_var 4 rfl (by walk_at "vis") rfl ?_
  refine ⟨_, .inl rfl, ?_⟩
  obtain ⟨x14, hx14, h⟩ := Out.gt h
  refine t_max rfl hx14 ?_
  refine ⟨_, _, .inl rfl, .inl rfl, ?_⟩
  obtain ⟨x15, hx15, h⟩ := Out.gt h
  refine t_index hx15 ?_
  refine ⟨_, _, .inl rfl, .inl rfl, ?_⟩
  refine opw_add ?_
  refine ⟨_, rfl, ?_⟩
  exact h
theorem ok_best_shift_n {f : Addr} {fd : FuncData} (F : Fun K "best_shift" "best_shift" s_best_shift f fd) (B : Bn mg) (c_is_number_n : Cal P w K mg base "is_number" 3 ["value", "lowest", "highest"] (FM cx (A := IB × Int × Int) (R := Bool) (fun a => [eIB a.1, eI a.2.1, eI a.2.2]) (fun v => .sh (eB v)) (fun a => .ok (m_is_number_n a.1 a.2.1 a.2.2)))) (c_spans_at : Cal P w K mg base "spans_at" 6 ["one", "other", "shift"] (FM cx (A := Rul × Rul × Int) (R := List Int) (fun a => [(eRul C_Ruler) a.1, (eRul C_Ruler) a.2.1, eI a.2.2]) (fun v => .fr ((eL eI) v)) (fun a => m_spans_at a.1 a.2.1 a.2.2))) {t_MAX_SHIFT : Tok} (m_MAX_SHIFT : mg "MAX_SHIFT" = some (.int 300 t_MAX_SHIFT)) (xc_InvalidNumber : XC K mg "InvalidNumber" (cx 6)) : FnOk P w K mg base (L2.CX P w) 8 f fd ["one", "other", "lowest", "highest"] (spD K (FM cx (A := Rul × Rul × IB × IB) (R := Int) (fun a => [(eRul C_Ruler) a.1, (eRul C_Ruler) a.2.1, eIB a.2.2.1, eIB a.2.2.2]) (fun v => .sh (eI v)) (fun a => m_best_shift_n a.1 a.2.1 a.2.2.1 a.2.2.2))) := by
  refine def_ok F sc_best_shift (fun ds G post px h => ?_) (fun cdv A outer s H E F0 T hr ds G post px h tk hp => ?_)
  · obtain ⟨_, rfl, _⟩ := h; rfl
  obtain ⟨⟨one1, other2, lowest3, highest4⟩, rfl, h⟩ := h
  unfold m_best_shift_n at h
  try dsimp only at h
  have nd := sc_best_shift.nd
  refine wb_env [.sh ((eRul C_Ruler) one1), .sh ((eRul C_Ruler) other2), .sh (eIB lowest3), .sh (eIB highest4), .no, .no] rfl ?_
  -- 108
  refine wb_cons (ws_if ?_)
  refine wt_w ?_
  refine ww_orN ?_
  refine wt_not ?_
  refine wt_val (fun _ => rfl) ?_
  refine we_cal tk c_is_number_n hr rfl ?_
  refine wa_cons ?_
  refine we_var 2 rfl (by walk_at "vis") rfl ?_
  refine ⟨_, _, rfl, ?_⟩
  refine wa_cons ?_
  refine we_bin ?_
  refine we_int ?_
  refine we_globI rfl m_MAX_SHIFT ?_
  refine ⟨_, _, .inl rfl, .inl rfl, ?_⟩
  refine opw_sub ?_
  refine ⟨_, _, rfl, ?_⟩
  refine wa_cons ?_
  refine we_globI rfl m_MAX_SHIFT ?_
  refine ⟨_, _, rfl, ?_⟩
  refine wa_nil ?_
  refine ⟨(lowest3, (0 : Int) - (300 : Int), (300 : Int)), rfl, ?_⟩
  refine ⟨_, rfl, ?_⟩
  refine ⟨_, _, _, _, _, h, fun _ Q' h => ?_, fun c5 h => ?_⟩
  · skip
    refine ww_or1 ?_
    refine wt_not ?_
    refine wt_val (fun _ => rfl) ?_
    refine we_cal tk c_is_number_n hr rfl ?_
    refine wa_cons ?_
    refine we_var 3 rfl (by walk_at "vis") rfl ?_
    refine ⟨_, _, rfl, ?_⟩
    refine wa_cons ?_
    refine we_num ?_
    refine we_var 2 rfl (by walk_at "vis") rfl ?_
    obtain ⟨n7, hn7, h⟩ := Out.gt h
    refine ⟨lowest3, n7, rfl, hn7, ?_⟩
    refine ⟨_, _, rfl, ?_⟩
    refine wa_cons ?_
    refine we_globI rfl m_MAX_SHIFT ?_
    refine ⟨_, _, rfl, ?_⟩
    refine wa_nil ?_
    refine ⟨(highest4, n7, (300 : Int)), rfl, ?_⟩
    refine ⟨_, rfl, ?_⟩
    exact ⟨rfl, rfl, h⟩
  refine ⟨fun hc => ?_, fun hc => ?_⟩
  · skip
    have h := (Out.iteb h).1 hc
    -- 109
    exact wb_cons (ws_raise1 xc_InvalidNumber rfl tk rfl h)
  have h := (Out.iteb h).2 hc
  refine wb_nil ?_
  -- 110
  refine wb_setLcQ [("shift", 5)] 4 rfl nd rfl rfl (by rfl) (blkOk_by (by rfl)) (lcS_preP (γ := Int) [("shift", 5)] [.sh ((eRul C_Ruler) one1), .sh ((eRul C_Ruler) other2), .sh (eIB lowest3), .sh (eIB highest4), .no, .no] (fun _ : Unit => G) (en := eI) eI ?_)
  refine wi_rng2 rfl B.range ?_
  refine we_num ?_
  refine we_var 2 rfl (by walk_at "vis") rfl ?_
  obtain ⟨n10, hn10, h⟩ := Out.gt h
  refine ⟨lowest3, n10, rfl, hn10, ?_⟩
  refine we_bin ?_
  refine we_num ?_
  refine we_var 3 rfl (by walk_at "vis") rfl ?_
  obtain ⟨n11, hn11, h⟩ := Out.gt h
  refine ⟨highest4, n11, rfl, hn11, ?_⟩
  refine we_int ?_
  refine ⟨_, _, .inl rfl, .inl rfl, ?_⟩
  refine opw_add ?_
  obtain ⟨g12, h⟩ := Out.gd h
  obtain ⟨g13, h⟩ := Out.gd h
  refine ⟨n10, (n11 + (1 : Int)), rfl, rfl, g12, g13, ?_⟩
  obtain ⟨g14, h⟩ := Out.gd h
  refine ⟨(rgI n10 (n11 + (1 : Int))), (), _, _, _, _, rfl, g14, Wk.refl _, rfl, h, fun s15 x9 Q' h => ?_, fun l16 h => ?_⟩
  · skip
    rintro Y ⟨s1, H1, C1, cl, fp, rfl⟩
    refine wg_name 5 nd rfl (by walk_at "vis") (by decide) (lt_ rfl) ?_
    rintro Y ⟨s1, H1, C1, cl, fp, rfl⟩
    refine we_b1 (x := "len") (id := "len") rfl B.len bt_len ?_
    refine we_cal (BlkX.tk ⟨_, _, _, _, _, rfl⟩) c_spans_at hr rfl ?_
    refine wa_cons ?_
    refine we_var 0 rfl (by walk_at "vis") rfl ?_
    refine ⟨_, _, rfl, ?_⟩
    refine wa_cons ?_
    refine we_var 1 rfl (by walk_at "vis") rfl ?_
    refine ⟨_, _, rfl, ?_⟩
    refine wa_cons ?_
    refine we_var 5 rfl (by walk_at "vis") rfl ?_
    refine ⟨_, _, rfl, ?_⟩
    refine wa_nil ?_
    refine ⟨(one1, other2, x9), rfl, (Out.nx (Out.sb h)).imp (fun r17 h => ?_) (fun _ he => he)⟩
    refine ⟨_, .inl rfl, ?_⟩
    refine t_len (f := eI) r17 ?_
    exact ⟨((r17).length : Int), (), _, rfl, Wk.refl _, rfl, h⟩
  refine ⟨lt_ rfl, _, rfl, ?_⟩
  refine wb_env [.sh ((eRul C_Ruler) one1), .sh ((eRul C_Ruler) other2), .sh (eIB lowest3), .sh (eIB highest4), .own ((eL eI) l16.1), .no] rfl ?_
  -- 111
  refine wb_cons (ws_ret ?_)
  refine we_bin ?_
  refine we_num ?_
  refine we_var 2 rfl (by walk_at "vis") rfl ?_
  obtain ⟨n18, hn18, h⟩ := Out.gt h
  refine ⟨lowest3, n18, rfl, hn18, ?_⟩
  refine we_index ?_
  refine we_var 4 rfl (by walk_at "vis") rfl ?_
  refine ⟨_, .inl rfl, ?_⟩
  refine we_b1 (x := "max") (id := "max") rfl B.max bt_max ?_
  refine we_var 4 rfl (by walk_at "vis") rfl ?_
  refine ⟨_, .inl rfl, ?_⟩
  obtain ⟨x19, hx19, h⟩ := Out.gt h
  refine t_max rfl hx19 ?_
  refine ⟨_, _, .inl rfl, .inl rfl, ?_⟩
  obtain ⟨x20, hx20, h⟩ := Out.gt h
  refine t_index hx20 ?_
  refine ⟨_, _, .inl rfl, .inl rfl, ?_⟩
  refine opw_add ?_
  refine ⟨_, rfl, ?_⟩
  exact h
theorem ok_joint_spans_n {f : Addr} {fd : FuncData} (F : Fun K "joint_spans" "joint_spans" s_joint_spans f fd) (B : Bn mg) (c_is_number_n : Cal P w K mg base "is_number" 3 ["value", "lowest", "highest"] (FM cx (A := IB × Int × Int) (R := Bool) (fun a => [eIB a.1, eI a.2.1, eI a.2.2]) (fun v => .sh (eB v)) (fun a => .ok (m_is_number_n a.1 a.2.1 a.2.2)))) (c_spans_at : Cal P w K mg base "spans_at" 6 ["one", "other", "shift"] (FM cx (A := Rul × Rul × Int) (R := List Int) (fun a => [(eRul C_Ruler) a.1, (eRul C_Ruler) a.2.1, eI a.2.2]) (fun v => .fr ((eL eI) v)) (fun a => m_spans_at a.1 a.2.1 a.2.2))) {t_MAX_SHIFT : Tok} (m_MAX_SHIFT : mg "MAX_SHIFT" = some (.int 300 t_MAX_SHIFT)) (xc_InvalidNumber : XC K mg "InvalidNumber" (cx 6)) : FnOk P w K mg base (L2.CX P w) 8 f fd ["one", "other", "shift"] (spD K (FM cx (A := Rul × Rul × IB) (R := List Int) (fun a => [(eRul C_Ruler) a.1, (eRul C_Ruler) a.2.1, eIB a.2.2]) (fun v => .fr ((eL eI) v)) (fun a => m_joint_spans_n a.1 a.2.1 a.2.2))) := by
  refine def_ok F sc_joint_spans (fun ds G post px h => ?_) (fun cdv A outer s H E F0 T hr ds G post px h tk hp => ?_)
  · obtain ⟨_, rfl, _⟩ := h; rfl
  obtain ⟨⟨one1, other2, shift3⟩, rfl, h⟩ := h
  unfold m_joint_spans_n at h
  try dsimp only at h
  have nd := sc_joint_spans.nd
  refine wb_env [.sh ((eRul C_Ruler) one1), .sh ((eRul C_Ruler) other2), .sh (eIB shift3)] rfl ?_
  -- 104
  refine wb_cons (ws_if ?_)
  refine wt_not ?_
  refine wt_val (fun _ => rfl) ?_
  refine we_cal tk c_is_number_n hr rfl ?_
  refine wa_cons ?_
  refine we_var 2 rfl (by walk_at "vis") rfl ?_
  refine ⟨_, _, rfl, ?_⟩
  refine wa_cons ?_
  refine we_bin ?_
  refine we_int ?_
  refine we_globI rfl m_MAX_SHIFT ?_
  refine ⟨_, _, .inl rfl, .inl rfl, ?_⟩
  refine opw_sub ?_
  refine ⟨_, _, rfl, ?_⟩
  refine wa_cons ?_
  refine we_globI rfl m_MAX_SHIFT ?_
  refine ⟨_, _, rfl, ?_⟩
  refine wa_nil ?_
  refine ⟨(shift3, (0 : Int) - (300 : Int), (300 : Int)), rfl, ?_⟩
  refine ⟨_, rfl, ?_⟩
  refine ⟨fun hc => ?_, fun hc => ?_⟩
  · skip
    have h := (Out.iteb h).1 hc
    -- 105
    exact wb_cons (ws_raise1 xc_InvalidNumber rfl tk rfl h)
  have h := (Out.iteb h).2 hc
  refine wb_nil ?_
  -- 106
  refine wb_cons (ws_ret ?_)
  refine we_cal tk c_spans_at hr rfl ?_
  refine wa_cons ?_
  refine we_var 0 rfl (by walk_at "vis") rfl ?_
  refine ⟨_, _, rfl, ?_⟩
  refine wa_cons ?_
  refine we_var 1 rfl (by walk_at "vis") rfl ?_
  refine ⟨_, _, rfl, ?_⟩
  refine wa_cons ?_
  refine we_num ?_
  refine we_var 2 rfl (by walk_at "vis") rfl ?_
  obtain ⟨n5, hn5, h⟩ := Out.gt h
  refine ⟨shift3, n5, rfl, hn5, ?_⟩
  refine ⟨_, _, rfl, ?_⟩
  refine wa_nil ?_
  refine ⟨(one1, other2, n5), rfl, (Out.sb h).imp (fun r6 h => ?_) (fun _ he => he)⟩
  refine ⟨_, rfl, ?_⟩
  exact h
theorem ok_law_marks {f : Addr} {fd : FuncData} (F : Fun K "_law_marks" "_law_marks" s_law_marks f fd) (B : Bn mg) (c_law_take : Cal P w K mg base "_law_take" 3 ["_law_box", "_law_many"] (FB (A := Int) (R := Int) (fun a => [eI a]) (fun v => .sh (eI v)) (fun a => m_law_take a))) : FnOk P w K mg base (L2.CX P w) 5 f fd ["_law_box", "_law_most", "_law_length"] (spD K (FB (A := Int × Int) (R := List Int) (fun a => [eI a.1, eI a.2]) (fun v => .sh ((eT eI) v)) (fun a => m_law_marks a.1 a.2))) := by
  refine def_ok F sc_law_marks (fun ds G post px h => ?_) (fun cdv A outer s H E F0 T hr ds G post px h tk hp => ?_)
  · obtain ⟨_, _, _, _, _, _, rfl, _⟩ := h; rfl
  obtain ⟨⟨most1, length2⟩, G0, b, g, bx, hne, rfl, rfl, h⟩ := h
  unfold m_law_marks at h
  try dsimp only at h
  have nd := sc_law_marks.nd
  refine wb_env [.sh (.adr b), .sh (eI most1), .sh (eI length2), .no, .no, .no] rfl ?_
  -- 145
  refine wb_cons (ws_par 3 4 rfl nd rfl rfl (by decide) rfl rfl (by rfl) ?_)
  refine we_listR2 rfl rfl B.list rfl B.range ?_
  refine we_int ?_
  refine we_bin ?_
  refine we_var 2 rfl (by walk_at "vis") rfl ?_
  refine we_int ?_
  refine ⟨_, _, .inl rfl, .inl rfl, ?_⟩
  refine opw_add ?_
  obtain ⟨g3, h⟩ := Out.gd h
  refine ⟨_, _, rfl, rfl, g3, ?_⟩
  refine ⟨_, _, rfl, ?_⟩
  refine we_lst ?_
  refine wa_cons ?_
  refine we_int ?_
  refine ⟨_, _, rfl, ?_⟩
  refine wa_nil ?_
  refine ⟨lt_ rfl, ?_⟩
  refine ⟨_, _, rfl, lt_ rfl, lt_ rfl, ?_⟩
  refine wb_let h (fun left4 => [.sh (.adr b), .sh (eI most1), .sh (eI length2), .own ((eL eI) left4), .own ((eL eI) [(0 : Int)]), .no]) rfl fun left4 h => ?_
  refine wb_let h (fun found5 => [.sh (.adr b), .sh (eI most1), .sh (eI length2), .own ((eL eI) left4), .own ((eL eI) found5), .no]) rfl fun found5 h => ?_
  -- 146
  refine wb_forO (β := (List Int × Bx)) [5] (σT := (List Int) × (List Int) × Bx) (fun s6 => [.sh (.adr b), .sh (eI most1), .sh (eI length2), .own ((eL eI) s6.2.1), .own ((eL eI) s6.1), .no]) (fun s6 => bxG G0 b g s6.2.2) eI hp rfl ?_
  refine wi_rng1 rfl B.range ?_
  refine we_bin ?_
  refine we_int ?_
  refine we_cal tk c_law_take hr rfl ?_
  refine wa_cons ?_
  refine we_var 0 rfl (by walk_at "vis") rfl ?_
  refine ⟨_, _, rfl, ?_⟩
  refine wa_cons ?_
  refine we_bin ?_
  refine we_var 1 rfl (by walk_at "vis") rfl ?_
  refine we_int ?_
  refine ⟨_, _, .inl rfl, .inl rfl, ?_⟩
  refine opw_sub ?_
  refine ⟨_, _, rfl, ?_⟩
  refine wa_nil ?_
  refine ⟨most1 - (1 : Int), G0, b, g, bx, hne, rfl, rfl, (Out.sb h).imp (fun r9 h => ?_) (fun _ he => he.elim)⟩
  refine ⟨_, _, .inl rfl, .inl rfl, ?_⟩
  refine opw_add ?_
  obtain ⟨g10, h⟩ := Out.gd h
  refine ⟨((1 : Int) + r9.1), rfl, g10, ?_⟩
  refine ⟨(rgI 0 ((1 : Int) + r9.1)), (found5, left4, r9.2), _, _, _, _, rfl, (.eq (.eq (.eq (.eq (.eq (.no .nil)))))), rfl, h, fun s6 x8 Q' h => ?_, fun s7 h => ?_⟩
  · skip
    refine wg_name 5 nd rfl (by walk_at "vis") (by decide) (lt_ rfl) ?_
    refine wb_env [.sh (.adr b), .sh (eI most1), .sh (eI length2), .own ((eL eI) s6.2.1), .own ((eL eI) s6.1), .sh (eI x8)] rfl ?_
    -- 147
    refine wb_join (β := ((List Int) × (List Int) × Bx)) (σT := (List Int) × (List Int) × Bx) (fun s11 => [.sh (.adr b), .sh (eI most1), .sh (eI length2), .own ((eL eI) s11.2.1), .own ((eL eI) s11.1), .sh (eI x8)]) (fun s11 => bxG G0 b g s11.2.2) h (fun Q' h => ?_) (fun s11 h => ?_)
    · skip
      refine ws_if ?_
      refine wt_cmp (nomark _) ?_
      refine we_var 3 rfl (by walk_at "vis") rfl ?_
      refine we_lst ?_
      refine wa_nil ?_
      refine ⟨by decide, ?_⟩
      refine ⟨_, _, .inl rfl, .inl rfl, ?_⟩
      refine opw_neC (eqc_lst eqc_int) hr.units s6.2.1 ([] : List Int) ?_
      refine ⟨_, rfl, ?_⟩
      refine ⟨fun hc => ?_, fun hc => ?_⟩
      · skip
        have h := (Out.iteb h).1 hc
        -- 148
        refine wb_cons (ws_expr ?_)
        refine we_appendT (f := eI) ?_
        refine we_var 4 rfl (by walk_at "vis") rfl ?_
        refine ⟨_, s6.1, rfl, rfl, ?_⟩
        refine we_popT (f := eI) ?_
        refine we_var 3 rfl (by walk_at "vis") rfl ?_
        refine ⟨_, s6.2.1, rfl, rfl, ?_⟩
        refine we_cal tk c_law_take hr rfl ?_
        refine wa_cons ?_
        refine we_var 0 rfl (by walk_at "vis") rfl ?_
        refine ⟨_, _, rfl, ?_⟩
        refine wa_cons ?_
        refine we_b1 (x := "len") (id := "len") rfl B.len bt_len ?_
        refine we_var 3 rfl (by walk_at "vis") rfl ?_
        refine ⟨_, .inl rfl, ?_⟩
        refine t_len (f := eI) s6.2.1 ?_
        refine ⟨_, _, rfl, ?_⟩
        refine wa_nil ?_
        refine ⟨((s6.2.1).length : Int), G0, b, g, s6.2.2, hne, rfl, rfl, (Out.sb h).imp (fun r14 h => ?_) (fun _ he => he.elim)⟩
        obtain ⟨g15, h⟩ := Out.gd h
        obtain ⟨x16, hx16, h⟩ := Out.gt h
        obtain ⟨g17, h⟩ := Out.gd h
        refine ⟨r14.1, s6.2.1, x16, rfl, rfl, g15, hx16, g17, ?_⟩
        obtain ⟨g18, h⟩ := Out.gd h
        refine ⟨x16, _, s6.1, rfl, rfl, g18, ?_⟩
        refine wb_let h (fun found19 => [.sh (.adr b), .sh (eI most1), .sh (eI length2), .own ((eL eI) (s6.2.1.eraseIdx (r14.1).toNat)), .own ((eL eI) found19), .sh (eI x8)]) rfl fun found19 h => ?_
        refine wb_let h (fun left20 => [.sh (.adr b), .sh (eI most1), .sh (eI length2), .own ((eL eI) left20), .own ((eL eI) found19), .sh (eI x8)]) rfl fun left20 h => ?_
        exact wb_nil ⟨(found19, left20, r14.2), (.eq (.eq (.eq (.eq (.eq (.eq .nil)))))), rfl, h⟩
      have h := (Out.iteb h).2 hc
      exact wb_nil ⟨(s6.1, s6.2.1, s6.2.2), (.eq (.eq (.eq (.eq (.eq (.eq .nil)))))), rfl, h⟩
    exact wb_nil ⟨(s11.1, s11.2.1, s11.2.2), (.eq (.eq (.eq (.eq (.eq (.no .nil)))))), rfl, h⟩
  -- 149
  refine wb_cons (ws_ret ?_)
  refine we_t1 (x := "tuple") (id := "tuple") rfl B.tuple bt_tuple ?_
  refine we_b1 (x := "sorted") (id := "sorted") rfl B.sorted bt_sorted ?_
  refine we_var 4 rfl (by walk_at "vis") rfl ?_
  refine ⟨_, .inl rfl, ?_⟩
  refine c_sorted (ns := s7.1) ?_
  refine ⟨_, .inl rfl, ?_⟩
  refine c_tuple ?_
  refine ⟨_, rfl, ?_⟩
  exact h
theorem ok_law_ruler {f : Addr} {fd : FuncData} (F : Fun K "_law_ruler" "_law_ruler" s_law_ruler f fd) (B : Bn mg) (c_law_marks : Cal P w K mg base "_law_marks" 5 ["_law_box", "_law_most", "_law_length"] (FB (A := Int × Int) (R := List Int) (fun a => [eI a.1, eI a.2]) (fun v => .sh ((eT eI) v)) (fun a => m_law_marks a.1 a.2))) (c_law_take : Cal P w K mg base "_law_take" 3 ["_law_box", "_law_many"] (FB (A := Int) (R := Int) (fun a => [eI a]) (fun v => .sh (eI v)) (fun a => m_law_take a))) (k_Ruler : MakeD P w K mg base "Ruler" C_Ruler 5 ["self", "marks", "error"] (FMI cx (A := (List Int) × Int) (R := Rul) (fun a => [(eT eI) a.1, eI a.2]) (fun r => [.int r.error, .tup (r.marks.map D.int)]) (fun a => mk_Ruler a.1 a.2))) : FnOk P w K mg base (L2.CX P w) 8 f fd ["_law_box", "_law_most", "_law_length"] (spD K (FB (A := Int × Int) (R := Rul) (fun a => [eI a.1, eI a.2]) (fun v => .sh ((eRul C_Ruler) v)) (fun a => m_law_ruler a.1 a.2))) := by
  refine def_ok F sc_law_ruler (fun ds G post px h => ?_) (fun cdv A outer s H E F0 T hr ds G post px h tk hp => ?_)
  · obtain ⟨_, _, _, _, _, _, rfl, _⟩ := h; rfl
  obtain ⟨⟨most1, length2⟩, G0, b, g, bx, hne, rfl, rfl, h⟩ := h
  unfold m_law_ruler at h
  try dsimp only at h
  have nd := sc_law_ruler.nd
  refine wb_env [.sh (.adr b), .sh (eI most1), .sh (eI length2)] rfl ?_
  -- 151
  refine wb_cons (ws_ret ?_)
  refine we_make tk k_Ruler hr rfl ?_
  refine wa_cons ?_
  refine we_cal tk c_law_marks hr rfl ?_
  refine wa_cons ?_
  refine we_var 0 rfl (by walk_at "vis") rfl ?_
  refine ⟨_, _, rfl, ?_⟩
  refine wa_cons ?_
  refine we_var 1 rfl (by walk_at "vis") rfl ?_
  refine ⟨_, _, rfl, ?_⟩
  refine wa_cons ?_
  refine we_var 2 rfl (by walk_at "vis") rfl ?_
  refine ⟨_, _, rfl, ?_⟩
  refine wa_nil ?_
  refine ⟨(most1, length2), G0, b, g, bx, hne, rfl, rfl, (Out.sb h).imp (fun r3 h => ?_) (fun _ he => he.elim)⟩
  refine ⟨_, _, rfl, ?_⟩
  refine wa_cons ?_
  refine we_cal tk c_law_take hr rfl ?_
  refine wa_cons ?_
  refine we_var 0 rfl (by walk_at "vis") rfl ?_
  refine ⟨_, _, rfl, ?_⟩
  refine wa_cons ?_
  refine we_int ?_
  refine ⟨_, _, rfl, ?_⟩
  refine wa_nil ?_
  refine ⟨(4 : Int), G0, b, g, r3.2, hne, rfl, rfl, (Out.sb h).imp (fun r4 h => ?_) (fun _ he => he.elim)⟩
  refine ⟨_, _, rfl, ?_⟩
  refine wa_nil ?_
  refine ⟨(r3.1, r4.1), rfl, (Out.sb h).imp (fun r5 h => ?_) (fun _ he => he.elim)⟩
  refine ⟨_, rfl, ?_⟩
  exact h
theorem ok_law_different {f : Addr} {fd : FuncData} (F : Fun K "_law_different" "_law_different" s_law_different f fd) (B : Bn mg) : FnOk P w K mg base (L2.CX P w) 3 f fd ["_law_values"] (spD K (FM cx (A := List Int) (R := List Int) (fun a => [(eL eI) a]) (fun v => .fr ((eL eI) v)) (fun a => .ok (m_law_different a)))) := by
  refine def_ok F sc_law_different (fun ds G post px h => ?_) (fun cdv A outer s H E F0 T hr ds G post px h tk hp => ?_)
  · obtain ⟨_, rfl, _⟩ := h; rfl
  obtain ⟨values1, rfl, h⟩ := h
  unfold m_law_different at h
  try dsimp only at h
  have nd := sc_law_different.nd
  refine wb_env [.sh ((eL eI) values1), .no] rfl ?_
  -- 153
  refine wb_cons (ws_ret ?_)
  refine we_b1 (x := "sorted") (id := "sorted") rfl B.sorted bt_sorted ?_
  refine we_lock ?_
  refine we_t1 (x := "dict") (id := "dict") rfl B.dict bt_dict ?_
  refine we_lcQ [("_law_value", 1)] rfl nd (blkOk_by (by rfl)) (lc0_pre [("_law_value", 1)] [.sh ((eL eI) values1), .no] (en := eI) (eP eI eB) (fun (x2 : Int) => (x2, true)) ?_)
  refine ti_lst (f := eI) ?_
  refine we_var 0 rfl (by walk_at "vis") rfl ?_
  refine ⟨values1, _, rfl, fun hl3 => ?_⟩
  refine ⟨values1, rfl, hl3, Wk.refl _, fun x2 => ?_, ?_⟩
  · skip
    rintro Y ⟨s1, H1, C1, cl, fp, rfl⟩
    refine wg_name 1 nd rfl (by walk_at "vis") (by decide) (lt_ rfl) ?_
    rintro Y ⟨s1, H1, C1, cl, fp, rfl⟩
    refine we_tup ?_
    refine wa_cons ?_
    refine we_var 1 rfl (by walk_at "vis") rfl ?_
    refine ⟨_, _, rfl, ?_⟩
    refine wa_cons ?_
    refine we_bl ?_
    refine ⟨_, _, rfl, ?_⟩
    refine wa_nil ?_
    refine ⟨lt_ rfl, ?_⟩
    exact ⟨_, rfl, Wk.refl _, rfl⟩
  refine ⟨_, .inl rfl, ?_⟩
  refine t_dictP (k := kI) (f := eB) kI_inj rfl (values1.map (fun (x2 : Int) => (x2, true))) ?_
  refine ⟨_, _, rfl, ?_⟩
  refine ⟨_, .inl rfl, ?_⟩
  refine t_sortedD (f := eB) (dmk (values1.map (fun (x2 : Int) => (x2, true)))) rfl ?_
  refine ⟨_, rfl, ?_⟩
  exact h
theorem ok_law_joint {f : Addr} {fd : FuncData} (F : Fun K "_law_joint" "_law_joint" s_law_joint f fd) (B : Bn mg) (c_law_different : Cal P w K mg base "_law_different" 3 ["_law_values"] (FM cx (A := List Int) (R := List Int) (fun a => [(eL eI) a]) (fun v => .fr ((eL eI) v)) (fun a => .ok (m_law_different a)))) (cl_Ruler : Cl_Ruler K C_Ruler) (p_Ruler_marks : PropD P w K mg base C_Ruler "marks" 3 (FM cx (A := Rul) (R := List Int) (fun a => [(eRul C_Ruler) a]) (fun v => .sh ((eT eI) v)) (fun a => .ok (m_Ruler_marks a)))) : FnOk P w K mg base (L2.CX P w) 6 f fd ["_law_one", "_law_other", "_law_shift"] (spD K (FM cx (A := Rul × Rul × Int) (R := List Int) (fun a => [(eRul C_Ruler) a.1, (eRul C_Ruler) a.2.1, eI a.2.2]) (fun v => .fr ((eL eI) v)) (fun a => m_law_joint a.1 a.2.1 a.2.2))) := by
  refine def_ok F sc_law_joint (fun ds G post px h => ?_) (fun cdv A outer s H E F0 T hr ds G post px h tk hp => ?_)
  · obtain ⟨_, rfl, _⟩ := h; rfl
  obtain ⟨⟨one1, other2, shift3⟩, rfl, h⟩ := h
  unfold m_law_joint at h
  try dsimp only at h
  have nd := sc_law_joint.nd
  obtain ⟨q_Ruler_0, sl_Ruler_0⟩ := cl_Ruler.s0
  obtain ⟨q_Ruler_1, sl_Ruler_1⟩ := cl_Ruler.s1
  refine wb_env [.sh ((eRul C_Ruler) one1), .sh ((eRul C_Ruler) other2), .sh (eI shift3), .no, .no, .no, .no] rfl ?_
  -- 174
  refine wb_cons (ws_set 3 nd rfl (by walk_at "vis") ?_)
  refine we_bin ?_
  refine we_t1 (x := "list") (id := "list") rfl B.list bt_list ?_
  refine we_prop cl_Ruler.cls p_Ruler_marks hr ?_
  refine we_var 0 rfl (by walk_at "vis") rfl ?_
  refine ⟨_, rfl, one1, rfl, ?_⟩
  refine ⟨_, .inl rfl, ?_⟩
  refine c_listT ?_
  refine we_lcQ [("_law_mark", 5)] rfl nd (blkOk_by (by rfl)) (lc0_pre [("_law_mark", 5)] [.sh ((eRul C_Ruler) one1), .sh ((eRul C_Ruler) other2), .sh (eI shift3), .no, .no, .no, .no] (en := eI) eI (fun (x5 : Int) => x5 + shift3) ?_)
  refine ti_tup (f := eI) ?_
  refine we_prop cl_Ruler.cls p_Ruler_marks hr ?_
  refine we_var 1 rfl (by walk_at "vis") rfl ?_
  refine ⟨_, rfl, other2, rfl, ?_⟩
  refine ⟨(m_Ruler_marks other2), _, rfl, fun hl7 => ?_⟩
  refine ⟨(m_Ruler_marks other2), rfl, hl7, Wk.refl _, fun x5 => ?_, ?_⟩
  · skip
    rintro Y ⟨s1, H1, C1, cl, fp, rfl⟩
    refine wg_name 5 nd rfl (by walk_at "vis") (by decide) (lt_ rfl) ?_
    rintro Y ⟨s1, H1, C1, cl, fp, rfl⟩
    refine we_bin ?_
    refine we_var 5 rfl (by walk_at "vis") rfl ?_
    refine we_var 2 rfl (by walk_at "vis") rfl ?_
    refine ⟨_, _, .inl rfl, .inl rfl, ?_⟩
    refine opw_add ?_
    exact ⟨_, rfl, Wk.refl _, rfl⟩
  obtain ⟨g8, h⟩ := Out.gd h
  refine ⟨_, _, .inl rfl, .inl rfl, ?_⟩
  refine t_cat (f := eI) (m_Ruler_marks one1) ((m_Ruler_marks other2).map (fun (x5 : Int) => x5 + shift3)) g8 ?_
  refine ⟨lt_ rfl, _, rfl, ?_⟩
  refine wb_let h (fun marks_here9 => [.sh ((eRul C_Ruler) one1), .sh ((eRul C_Ruler) other2), .sh (eI shift3), .own ((eL eI) marks_here9), .no, .no, .no]) rfl fun marks_here9 h => ?_
  -- 175
  refine wb_cons (ws_set 4 nd rfl (by walk_at "vis") ?_)
  refine we_lst ?_
  refine wa_nil ?_
  refine ⟨by decide, ?_⟩
  refine ⟨lt_ rfl, _, rfl, ?_⟩
  refine wb_let h (fun found10 => [.sh ((eRul C_Ruler) one1), .sh ((eRul C_Ruler) other2), .sh (eI shift3), .own ((eL eI) marks_here9), .own ((eL eI) found10), .no, .no]) rfl fun found10 h => ?_
  -- 176
  refine wb_forO (β := List Int) [5] (σT := List Int) (fun s11 => [.sh ((eRul C_Ruler) one1), .sh ((eRul C_Ruler) other2), .sh (eI shift3), .sh ((eL eI) marks_here9), .own ((eL eI) s11), .no, .no]) (fun s11 => G) eI hp rfl ?_
  refine ti_lst (f := eI) ?_
  refine we_var 3 rfl (by walk_at "vis") rfl ?_
  refine ⟨marks_here9, _, rfl, fun hl14 => ?_⟩
  refine ⟨marks_here9, found10, _, _, _, _, rfl, (.eq (.eq (.eq (.eq (.eq (.no (.no .nil))))))), rfl, h, fun s11 x13 Q' h => ?_, fun s12 h => ?_⟩
  · skip
    refine wg_name 5 nd rfl (by walk_at "vis") (by decide) (lt_ rfl) ?_
    refine wb_env [.sh ((eRul C_Ruler) one1), .sh ((eRul C_Ruler) other2), .sh (eI shift3), .sh ((eL eI) marks_here9), .own ((eL eI) s11), .sh (eI x13), .no] rfl ?_
    -- 177
    refine wb_cons (ws_expr ?_)
    refine we_extendT (f := eI) ?_
    refine we_var 4 rfl (by walk_at "vis") rfl ?_
    refine ⟨_, s11, rfl, rfl, ?_⟩
    refine we_lcQ [("_law_more", 6)] rfl nd (blkOk_by (by rfl)) (lc1_pre [("_law_more", 6)] [.sh ((eRul C_Ruler) one1), .sh ((eRul C_Ruler) other2), .sh (eI shift3), .sh ((eL eI) marks_here9), .own ((eL eI) s11), .sh (eI x13), .no] (en := eI) eI (fun x16 => !decide (x16 = x13)) (fun (x16 : Int) => if (x13 - x16) < 0 then -(x13 - x16) else (x13 - x16)) ?_)
    refine ti_lst (f := eI) ?_
    refine we_var 3 rfl (by walk_at "vis") rfl ?_
    refine ⟨marks_here9, _, rfl, fun hl17 => ?_⟩
    refine ⟨marks_here9, rfl, hl17, Wk.refl _, fun x16 => ?_, ?_⟩
    · skip
      rintro Y ⟨s1, H1, C1, cl, fp, rfl⟩
      refine wg_name 6 nd rfl (by walk_at "vis") (by decide) (lt_ rfl) ?_
      rintro Y ⟨s1, H1, C1, cl, fp, rfl⟩
      refine wt_cmp (nomark _) ?_
      refine we_var 6 rfl (by walk_at "vis") rfl ?_
      refine we_var 5 rfl (by walk_at "vis") rfl ?_
      refine ⟨_, _, .inl rfl, .inl rfl, ?_⟩
      refine opw_neI ?_
      refine ⟨_, rfl, ?_⟩
      refine ⟨rfl, fun _ => ?_, fun _ => ?_⟩
      · skip
        rintro Y ⟨s1, H1, C1, cl, fp, rfl⟩
        refine we_b1 (x := "abs") (id := "abs") rfl B.abs bt_abs ?_
        refine we_bin ?_
        refine we_var 5 rfl (by walk_at "vis") rfl ?_
        refine we_var 6 rfl (by walk_at "vis") rfl ?_
        refine ⟨_, _, .inl rfl, .inl rfl, ?_⟩
        refine opw_sub ?_
        refine ⟨_, .inl rfl, ?_⟩
        refine c_abs ?_
        exact ⟨_, rfl, Wk.refl _, rfl⟩
      exact ⟨Wk.refl _, rfl⟩
    obtain ⟨g18, h⟩ := Out.gd h
    refine ⟨((marks_here9.filter (fun (x16 : Int) => !decide (x16 = x13))).map (fun (x16 : Int) => if (x13 - x16) < 0 then -(x13 - x16) else (x13 - x16))), _, s11, rfl, rfl, g18, ?_⟩
    refine wb_let h (fun found19 => [.sh ((eRul C_Ruler) one1), .sh ((eRul C_Ruler) other2), .sh (eI shift3), .sh ((eL eI) marks_here9), .own ((eL eI) found19), .sh (eI x13), .no]) rfl fun found19 h => ?_
    exact wb_nil ⟨found19, (.eq (.eq (.eq (.eq (.eq (.no (.no .nil))))))), rfl, h⟩
  -- 178
  refine wb_cons (ws_ret ?_)
  refine we_cal tk c_law_different hr rfl ?_
  refine wa_cons ?_
  refine we_var 4 rfl (by walk_at "vis") rfl ?_
  refine ⟨_, _, rfl, ?_⟩
  refine wa_nil ?_
  refine ⟨s12, rfl, ?_⟩
  refine ⟨_, rfl, ?_⟩
  exact h
theorem ok_law_error {f : Addr} {fd : FuncData} (F : Fun K "_law_error" "_law_error" s_law_error f fd) (B : Bn mg) (mgf : mg "_law_error" = some (.ref f)) (bd : L2.Binds K fd ["_law_work"] []) (ec_InvalidNumber : ExcC K (cx 6)) (em_InvalidNumber : PySem.W.exmOne K (.ref (cx 6)) (.ref (cx 0)) = some true) (kk_InvalidNumber_InvalidDistances : PySem.W.kitOne K (.ref (cx 6)) (.ref (cx 9)) = some false) (kk_InvalidNumber_InvalidEnd : PySem.W.kitOne K (.ref (cx 6)) (.ref (cx 4)) = some false) (kk_InvalidNumber_InvalidGaps : PySem.W.kitOne K (.ref (cx 6)) (.ref (cx 7)) = some false) (kk_InvalidNumber_InvalidNumber : PySem.W.kitOne K (.ref (cx 6)) (.ref (cx 6)) = some true) (kk_InvalidNumber_InvalidPiece : PySem.W.kitOne K (.ref (cx 6)) (.ref (cx 8)) = some false) (kk_InvalidNumber_InvalidPlace : PySem.W.kitOne K (.ref (cx 6)) (.ref (cx 5)) = some false) (kk_InvalidNumber_InvalidRack : PySem.W.kitOne K (.ref (cx 6)) (.ref (cx 2)) = some false) (kk_InvalidNumber_InvalidRuler : PySem.W.kitOne K (.ref (cx 6)) (.ref (cx 1)) = some false) (kk_InvalidNumber_TooMany : PySem.W.kitOne K (.ref (cx 6)) (.ref (cx 10)) = some false) (kk_InvalidNumber_UnknownName : PySem.W.kitOne K (.ref (cx 6)) (.ref (cx 3)) = some false) (kv_InvalidNumber : PySem.W.kitOne K (.ref (cx 6)) (.type "ValueError") = some true) (xm_InvalidDistances : mg "InvalidDistances" = some (.ref (cx 9))) (xm_InvalidEnd : mg "InvalidEnd" = some (.ref (cx 4))) (xm_InvalidGaps : mg "InvalidGaps" = some (.ref (cx 7))) (xm_InvalidNumber : mg "InvalidNumber" = some (.ref (cx 6))) (xm_InvalidPiece : mg "InvalidPiece" = some (.ref (cx 8))) (xm_InvalidPlace : mg "InvalidPlace" = some (.ref (cx 5))) (xm_InvalidRack : mg "InvalidRack" = some (.ref (cx 2))) (xm_InvalidRuler : mg "InvalidRuler" = some (.ref (cx 1))) (xm_RackError : mg "RackError" = some (.ref (cx 0))) (xm_TooMany : mg "TooMany" = some (.ref (cx 10))) (xm_UnknownName : mg "UnknownName" = some (.ref (cx 3))) (xg_ValueError : mg "ValueError" = none) : LErr P w K mg base "_law_error" (some (.str "")) (hdOf cx eEr hd_law_error) := by
  refine ⟨⟨f, s_law_error, fd, "_law_work", ["_law_work", "error", "_law_kinds", "_law_names", "_law_name"], F, mgf, bd, sc_law_error, rfl, by walk_at "vis", by decide, by decide, fun cdg => ?_⟩⟩
  have nd := sc_law_error.nd
  refine give_err (i := 1) rfl nd rfl rfl xm_RackError (by decide) rfl (fun x p ⟨xm, v, e1, hv, hp⟩ => ?_) (fun A outer s H x0 p ad G Y hh hY => ?_)
  · obtain ⟨n, fs⟩ := xm; subst e1; unfold hd_law_error at hv; dsimp only at hv
    by_cases hInvalidNumber : n = 6
    · subst hInvalidNumber; exact em_InvalidNumber
    rw [if_neg hInvalidNumber] at hv
    cases hv
  · obtain ⟨⟨n, fs⟩, v, rfl, hv, hp⟩ := hh; unfold hd_law_error at hv; dsimp only at hv
    by_cases hInvalidNumber : n = 6
    · subst hInvalidNumber; rw [if_pos rfl] at hv; cases hv; obtain ⟨oe, pn, d, F1, T1, hr, hz, hf, ex, rfl⟩ := hY
      have h : (hs_law_error_InvalidNumber).sat (fun v => p (eEr v)) (fun _ => False) := by rw [hs_law_error_InvalidNumber_eq]; exact hp
      unfold hs_law_error_InvalidNumber at h
      try dsimp only at h
      refine wb_env [.no, .sh (.adr ad), .no, .no, .no] rfl ?_
      -- 158
      refine wb_cons (ws_set 2 nd rfl (by walk_at "vis") ?_)
      refine we_lst ?_
      refine wa_cons ?_
      refine we_isX (x0 := _) ec_InvalidNumber hz hf ex rfl B.isinstance bt_isinstance rfl xm_InvalidDistances ?_
      refine we_var 1 rfl (by walk_at "vis") rfl ?_
      refine ⟨_, rfl, kk_InvalidNumber_InvalidDistances, ?_⟩
      refine ⟨_, _, rfl, ?_⟩
      refine wa_cons ?_
      refine we_isX (x0 := _) ec_InvalidNumber hz hf ex rfl B.isinstance bt_isinstance rfl xm_InvalidEnd ?_
      refine we_var 1 rfl (by walk_at "vis") rfl ?_
      refine ⟨_, rfl, kk_InvalidNumber_InvalidEnd, ?_⟩
      refine ⟨_, _, rfl, ?_⟩
      refine wa_cons ?_
      refine we_isX (x0 := _) ec_InvalidNumber hz hf ex rfl B.isinstance bt_isinstance rfl xm_InvalidGaps ?_
      refine we_var 1 rfl (by walk_at "vis") rfl ?_
      refine ⟨_, rfl, kk_InvalidNumber_InvalidGaps, ?_⟩
      refine ⟨_, _, rfl, ?_⟩
      refine wa_nil ?_
      refine ⟨lt_ rfl, ?_⟩
      refine ⟨lt_ rfl, _, rfl, ?_⟩
      refine wb_let h (fun kinds1 => [.no, .sh (.adr ad), .own ((eL eB) kinds1), .no, .no]) rfl fun kinds1 h => ?_
      -- 159
      refine wb_cons (ws_set 2 nd rfl (by walk_at "vis") ?_)
      refine we_bin ?_
      refine we_var 2 rfl (by walk_at "vis") rfl ?_
      refine we_lst ?_
      refine wa_cons ?_
      refine we_isX (x0 := _) ec_InvalidNumber hz hf ex rfl B.isinstance bt_isinstance rfl xm_InvalidNumber ?_
      refine we_var 1 rfl (by walk_at "vis") rfl ?_
      refine ⟨_, rfl, kk_InvalidNumber_InvalidNumber, ?_⟩
      refine ⟨_, _, rfl, ?_⟩
      refine wa_cons ?_
      refine we_isX (x0 := _) ec_InvalidNumber hz hf ex rfl B.isinstance bt_isinstance rfl xm_InvalidPiece ?_
      refine we_var 1 rfl (by walk_at "vis") rfl ?_
      refine ⟨_, rfl, kk_InvalidNumber_InvalidPiece, ?_⟩
      refine ⟨_, _, rfl, ?_⟩
      refine wa_nil ?_
      refine ⟨lt_ rfl, ?_⟩
      obtain ⟨g2, h⟩ := Out.gd h
      refine ⟨_, _, .inl rfl, .inl rfl, ?_⟩
      refine t_cat (f := eB) kinds1 [true, false] g2 ?_
      refine ⟨lt_ rfl, _, rfl, ?_⟩
      refine wb_let h (fun kinds3 => [.no, .sh (.adr ad), .own ((eL eB) kinds3), .no, .no]) rfl fun kinds3 h => ?_
      -- 160
      refine wb_cons (ws_set 2 nd rfl (by walk_at "vis") ?_)
      refine we_bin ?_
      refine we_var 2 rfl (by walk_at "vis") rfl ?_
      refine we_lst ?_
      refine wa_cons ?_
      refine we_isX (x0 := _) ec_InvalidNumber hz hf ex rfl B.isinstance bt_isinstance rfl xm_InvalidPlace ?_
      refine we_var 1 rfl (by walk_at "vis") rfl ?_
      refine ⟨_, rfl, kk_InvalidNumber_InvalidPlace, ?_⟩
      refine ⟨_, _, rfl, ?_⟩
      refine wa_cons ?_
      refine we_isX (x0 := _) ec_InvalidNumber hz hf ex rfl B.isinstance bt_isinstance rfl xm_InvalidRack ?_
      refine we_var 1 rfl (by walk_at "vis") rfl ?_
      refine ⟨_, rfl, kk_InvalidNumber_InvalidRack, ?_⟩
      refine ⟨_, _, rfl, ?_⟩
      refine wa_nil ?_
      refine ⟨lt_ rfl, ?_⟩
      obtain ⟨g4, h⟩ := Out.gd h
      refine ⟨_, _, .inl rfl, .inl rfl, ?_⟩
      refine t_cat (f := eB) kinds3 [false, false] g4 ?_
      refine ⟨lt_ rfl, _, rfl, ?_⟩
      refine wb_let h (fun kinds5 => [.no, .sh (.adr ad), .own ((eL eB) kinds5), .no, .no]) rfl fun kinds5 h => ?_
      -- 161
      refine wb_cons (ws_set 2 nd rfl (by walk_at "vis") ?_)
      refine we_bin ?_
      refine we_var 2 rfl (by walk_at "vis") rfl ?_
      refine we_lst ?_
      refine wa_cons ?_
      refine we_isX (x0 := _) ec_InvalidNumber hz hf ex rfl B.isinstance bt_isinstance rfl xm_InvalidRuler ?_
      refine we_var 1 rfl (by walk_at "vis") rfl ?_
      refine ⟨_, rfl, kk_InvalidNumber_InvalidRuler, ?_⟩
      refine ⟨_, _, rfl, ?_⟩
      refine wa_cons ?_
      refine we_isX (x0 := _) ec_InvalidNumber hz hf ex rfl B.isinstance bt_isinstance rfl xm_TooMany ?_
      refine we_var 1 rfl (by walk_at "vis") rfl ?_
      refine ⟨_, rfl, kk_InvalidNumber_TooMany, ?_⟩
      refine ⟨_, _, rfl, ?_⟩
      refine wa_cons ?_
      refine we_isX (x0 := _) ec_InvalidNumber hz hf ex rfl B.isinstance bt_isinstance rfl xm_UnknownName ?_
      refine we_var 1 rfl (by walk_at "vis") rfl ?_
      refine ⟨_, rfl, kk_InvalidNumber_UnknownName, ?_⟩
      refine ⟨_, _, rfl, ?_⟩
      refine wa_nil ?_
      refine ⟨lt_ rfl, ?_⟩
      obtain ⟨g6, h⟩ := Out.gd h
      refine ⟨_, _, .inl rfl, .inl rfl, ?_⟩
      refine t_cat (f := eB) kinds5 [false, false, false] g6 ?_
      refine ⟨lt_ rfl, _, rfl, ?_⟩
      refine wb_let h (fun kinds7 => [.no, .sh (.adr ad), .own ((eL eB) kinds7), .no, .no]) rfl fun kinds7 h => ?_
      -- 162
      refine wb_cons (ws_set 3 nd rfl (by walk_at "vis") ?_)
      refine we_lst ?_
      refine wa_cons ?_
      refine we_str ?_
      refine ⟨_, _, rfl, ?_⟩
      refine wa_cons ?_
      refine we_str ?_
      refine ⟨_, _, rfl, ?_⟩
      refine wa_cons ?_
      refine we_str ?_
      refine ⟨_, _, rfl, ?_⟩
      refine wa_cons ?_
      refine we_str ?_
      refine ⟨_, _, rfl, ?_⟩
      refine wa_cons ?_
      refine we_str ?_
      refine ⟨_, _, rfl, ?_⟩
      refine wa_cons ?_
      refine we_str ?_
      refine ⟨_, _, rfl, ?_⟩
      refine wa_nil ?_
      refine ⟨lt_ rfl, ?_⟩
      refine ⟨lt_ rfl, _, rfl, ?_⟩
      refine wb_let h (fun names8 => [.no, .sh (.adr ad), .own ((eL eB) kinds7), .own ((eL eZ) names8), .no]) rfl fun names8 h => ?_
      -- 163
      refine wb_cons (ws_set 3 nd rfl (by walk_at "vis") ?_)
      refine we_bin ?_
      refine we_var 3 rfl (by walk_at "vis") rfl ?_
      refine we_lst ?_
      refine wa_cons ?_
      refine we_str ?_
      refine ⟨_, _, rfl, ?_⟩
      refine wa_cons ?_
      refine we_str ?_
      refine ⟨_, _, rfl, ?_⟩
      refine wa_cons ?_
      refine we_str ?_
      refine ⟨_, _, rfl, ?_⟩
      refine wa_cons ?_
      refine we_str ?_
      refine ⟨_, _, rfl, ?_⟩
      refine wa_nil ?_
      refine ⟨lt_ rfl, ?_⟩
      obtain ⟨g9, h⟩ := Out.gd h
      refine ⟨_, _, .inl rfl, .inl rfl, ?_⟩
      refine t_cat (f := eZ) names8 [z_InvalidRack, z_InvalidRuler, z_TooMany, z_UnknownName] g9 ?_
      refine ⟨lt_ rfl, _, rfl, ?_⟩
      refine wb_let h (fun names10 => [.no, .sh (.adr ad), .own ((eL eB) kinds7), .own ((eL eZ) names10), .no]) rfl fun names10 h => ?_
      -- 164
      refine wb_cons (ws_if ?_)
      refine wt_w ?_
      refine ww_orB ?_
      refine wt_cmp (nomark _) ?_
      refine we_count ?_
      refine we_var 2 rfl (by walk_at "vis") rfl ?_
      refine ⟨_, .inl rfl, ?_⟩
      refine we_bl ?_
      refine ⟨_, _, .inl rfl, .inl rfl, ?_⟩
      refine t_countB (xs := kinds7) (b := true) ?_
      refine we_int ?_
      refine ⟨_, _, .inl rfl, .inl rfl, ?_⟩
      refine opw_neI ?_
      refine ⟨_, rfl, ?_⟩
      refine ⟨(!true), fun _ => ?_, ?_⟩
      · skip
        refine ww_or1 ?_
        refine wt_not ?_
        refine wt_val (fun _ => rfl) ?_
        refine we_isXt (x0 := _) ec_InvalidNumber hz hf ex rfl B.isinstance bt_isinstance rfl xg_ValueError boot_VE ?_
        refine we_var 1 rfl (by walk_at "vis") rfl ?_
        refine ⟨_, rfl, kv_InvalidNumber, ?_⟩
        refine ⟨_, rfl, ?_⟩
        exact ⟨rfl, rfl, rfl⟩
      refine ⟨fun hc => ?_, fun hc => ?_⟩
      · skip
        have h := (Out.iteb h).1 hc
        -- 165
        refine wb_cons (ws_ret ?_)
        refine we_str ?_
        refine ⟨_, rfl, ?_⟩
        exact ⟨_, rfl, rfl, h⟩
      have h := (Out.iteb h).2 hc
      refine wb_nil ?_
      -- 166
      refine wb_cons (ws_set 4 nd rfl (by walk_at "vis") ?_)
      refine we_ix (fun _ _ => rfl) ?_
      refine we_var 3 rfl (by walk_at "vis") rfl ?_
      refine we_index ?_
      refine we_var 2 rfl (by walk_at "vis") rfl ?_
      refine ⟨_, .inl rfl, ?_⟩
      refine we_bl ?_
      refine ⟨_, _, .inl rfl, .inl rfl, ?_⟩
      obtain ⟨x11, hx11, h⟩ := Out.gt h
      refine t_indexB hx11 ?_
      obtain ⟨x12, hx12, h⟩ := Out.gt h
      refine ⟨_, _, .inl rfl, .inl rfl, ?_⟩
      refine t_ix (f := eZ) hx12 ?_
      refine ⟨lt_ rfl, _, rfl, ?_⟩
      refine wb_env [.no, .sh (.adr ad), .own ((eL eB) kinds7), .own ((eL eZ) names10), .sh (eZ x12)] rfl ?_
      -- 167
      refine wb_cons (ws_if ?_)
      refine wt_cmp rfl ?_
      refine we_var 4 rfl (by walk_at "vis") rfl ?_
      refine we_tup ?_
      refine wa_cons ?_
      refine we_str ?_
      refine ⟨_, _, rfl, ?_⟩
      refine wa_cons ?_
      refine we_str ?_
      refine ⟨_, _, rfl, ?_⟩
      refine wa_cons ?_
      refine we_str ?_
      refine ⟨_, _, rfl, ?_⟩
      refine wa_nil ?_
      refine ⟨lt_ rfl, ?_⟩
      refine ⟨_, _, .inl rfl, .inl rfl, ?_⟩
      refine t_inFT flc_str x12 [z_InvalidDistances, z_InvalidGaps, z_InvalidPiece] ?_
      refine ⟨_, rfl, ?_⟩
      refine ⟨fun hc => ?_, fun hc => ?_⟩
      · skip
        have h := (Out.iteb h).1 hc
        exact h.elim
      have h := (Out.iteb h).2 hc
      refine wb_nil ?_
      -- 169
      refine wb_cons (ws_if ?_)
      refine wt_cmp (nomark _) ?_
      refine we_var 4 rfl (by walk_at "vis") rfl ?_
      refine we_str ?_
      refine ⟨_, _, .inl rfl, .inl rfl, ?_⟩
      refine opw_eqC eqc_str hr.units x12 z_InvalidRack ?_
      refine ⟨_, rfl, ?_⟩
      refine ⟨fun hc => ?_, fun hc => ?_⟩
      · skip
        have h := (Out.iteb h).1 hc
        exact h.elim
      have h := (Out.iteb h).2 hc
      refine wb_nil ?_
      -- 171
      refine wb_cons (ws_ret ?_)
      refine we_ifN eEr ?_
      refine wt_cmp (nomark _) ?_
      refine we_var 4 rfl (by walk_at "vis") rfl ?_
      refine we_str ?_
      refine ⟨_, _, .inl rfl, .inl rfl, ?_⟩
      refine opw_eqC eqc_str hr.units x12 z_InvalidRuler ?_
      refine ⟨_, rfl, ?_⟩
      refine ⟨_, _, _, _, _, _, h, fun _ Q' h => ?_, fun _ Q' h => ?_, fun i13 h => ?_⟩
      · skip
        exact h.elim
      · skip
        refine we_var 4 rfl (by walk_at "vis") rfl ?_
        exact ⟨_, rfl, rfl, rfl, h⟩
      refine ⟨_, rfl, ?_⟩
      exact ⟨_, rfl, rfl, h⟩
    rw [if_neg hInvalidNumber] at hv
    cases hv
theorem ok_law {f : Addr} {fd : FuncData} (F : Fun K "law" "law" s_law f fd) (B : Bn mg) (c_law_alike_0 : Cal P w K mg base "_law_alike" 3 ["_law_found", "_law_due"] (alikeF 0)) (c_law_alike_1 : Cal P w K mg base "_law_alike" 4 ["_law_found", "_law_due"] (alikeF 1)) (c_law_begun : Cal P w K mg base "_law_begun" 3 ["_law_script"] (FBegun m_law_begun)) (c_law_joint : Cal P w K mg base "_law_joint" 6 ["_law_one", "_law_other", "_law_shift"] (FM cx (A := Rul × Rul × Int) (R := List Int) (fun a => [(eRul C_Ruler) a.1, (eRul C_Ruler) a.2.1, eI a.2.2]) (fun v => .fr ((eL eI) v)) (fun a => m_law_joint a.1 a.2.1 a.2.2))) (c_law_ruler : Cal P w K mg base "_law_ruler" 8 ["_law_box", "_law_most", "_law_length"] (FB (A := Int × Int) (R := Rul) (fun a => [eI a.1, eI a.2]) (fun v => .sh ((eRul C_Ruler) v)) (fun a => m_law_ruler a.1 a.2))) (c_law_take : Cal P w K mg base "_law_take" 3 ["_law_box", "_law_many"] (FB (A := Int) (R := Int) (fun a => [eI a]) (fun v => .sh (eI v)) (fun a => m_law_take a))) (c_best_shift : Cal P w K mg base "best_shift" 8 ["one", "other", "lowest", "highest"] (FM cx (A := Rul × Rul × Int × Int) (R := Int) (fun a => [(eRul C_Ruler) a.1, (eRul C_Ruler) a.2.1, eI a.2.2.1, eI a.2.2.2]) (fun v => .sh (eI v)) (fun a => m_best_shift a.1 a.2.1 a.2.2.1 a.2.2.2))) (c_best_shift_n : Cal P w K mg base "best_shift" 8 ["one", "other", "lowest", "highest"] (FM cx (A := Rul × Rul × IB × IB) (R := Int) (fun a => [(eRul C_Ruler) a.1, (eRul C_Ruler) a.2.1, eIB a.2.2.1, eIB a.2.2.2]) (fun v => .sh (eI v)) (fun a => m_best_shift_n a.1 a.2.1 a.2.2.1 a.2.2.2))) (c_joint_spans : Cal P w K mg base "joint_spans" 8 ["one", "other", "shift"] (FM cx (A := Rul × Rul × Int) (R := List Int) (fun a => [(eRul C_Ruler) a.1, (eRul C_Ruler) a.2.1, eI a.2.2]) (fun v => .fr ((eL eI) v)) (fun a => m_joint_spans a.1 a.2.1 a.2.2))) (c_joint_spans_n : Cal P w K mg base "joint_spans" 8 ["one", "other", "shift"] (FM cx (A := Rul × Rul × IB) (R := List Int) (fun a => [(eRul C_Ruler) a.1, (eRul C_Ruler) a.2.1, eIB a.2.2]) (fun v => .fr ((eL eI) v)) (fun a => m_joint_spans_n a.1 a.2.1 a.2.2))) (l_law_error : LErr P w K mg base "_law_error" (some (.str "")) (hdOf cx eEr hd_law_error))  {c_law P_law : Addr} (hcode : fd.code = .ref c_law) (tb : LamX.TabB base mg c_law P_law) : FnOk P w K mg base (L2.CX P w) 14 f fd ["_law_script"] (spD K (FLawT P_law (("law" ++ ".<locals>." : Str) ++ "<lambda>") m_law)) := by
  refine def_okC F hcode sc_law (fun ds G post px h => ?_) (fun A outer s H E F0 T hr ds G0 post px h tk hp => ?_)
  · obtain ⟨_, rfl, _⟩ := h; rfl
  obtain ⟨script1, rfl, hP0, h⟩ := h
  unfold m_law at h
  try dsimp only at h
  have nd := sc_law.nd
  refine wb_env [.sh (D.scr script1), .no, .no, .no, .no, .no, .no, .no, .no, .no, .no] rfl ?_
  -- 180
  refine wb_cons (ws_set 1 nd rfl (by walk_at "vis") ?_)
  refine we_cal tk c_law_begun hr rfl ?_
  refine wa_cons ?_
  refine we_var 0 rfl (by walk_at "vis") rfl ?_
  refine ⟨_, _, rfl, ?_⟩
  refine wa_nil ?_
  refine ⟨script1, rfl, fun b g hne hb0 hg0 => ?_⟩
  refine ⟨lt_ rfl, _, rfl, ?_⟩
  refine wb_env [.sh (D.scr script1), .sh (.adr b), .no, .no, .no, .no, .no, .no, .no, .no, .no] rfl ?_
  -- 181
  refine wb_cons (ws_parT 2 3 rfl nd rfl rfl (by walk_at "vis") (by walk_at "vis") ?_)
  refine we_cal tk c_law_ruler hr rfl ?_
  refine wa_cons ?_
  refine we_var 1 rfl (by walk_at "vis") rfl ?_
  refine ⟨_, _, rfl, ?_⟩
  refine wa_cons ?_
  refine we_int ?_
  refine ⟨_, _, rfl, ?_⟩
  refine wa_cons ?_
  refine we_int ?_
  refine ⟨_, _, rfl, ?_⟩
  refine wa_nil ?_
  refine ⟨((6 : Int), (40 : Int)), G0, b, g, (m_law_begun script1), hne, rfl, rfl, (Out.sb h).imp (fun r2 h => ?_) (fun _ he => he.elim)⟩
  refine ⟨_, _, rfl, ?_⟩
  refine we_cal tk c_law_ruler hr rfl ?_
  refine wa_cons ?_
  refine we_var 1 rfl (by walk_at "vis") rfl ?_
  refine ⟨_, _, rfl, ?_⟩
  refine wa_cons ?_
  refine we_int ?_
  refine ⟨_, _, rfl, ?_⟩
  refine wa_cons ?_
  refine we_ix (fun _ _ => rfl) ?_
  refine we_lst ?_
  refine wa_cons ?_
  refine we_int ?_
  refine ⟨_, _, rfl, ?_⟩
  refine wa_cons ?_
  refine we_int ?_
  refine ⟨_, _, rfl, ?_⟩
  refine wa_nil ?_
  refine ⟨lt_ rfl, ?_⟩
  refine we_cal tk c_law_take hr rfl ?_
  refine wa_cons ?_
  refine we_var 1 rfl (by walk_at "vis") rfl ?_
  refine ⟨_, _, rfl, ?_⟩
  refine wa_cons ?_
  refine we_int ?_
  refine ⟨_, _, rfl, ?_⟩
  refine wa_nil ?_
  refine ⟨(2 : Int), G0, b, g, r2.2, hne, rfl, rfl, (Out.sb h).imp (fun r3 h => ?_) (fun _ he => he.elim)⟩
  obtain ⟨x4, hx4, h⟩ := Out.gt h
  refine ⟨_, _, .inl rfl, .inl rfl, ?_⟩
  refine t_ix (f := eI) hx4 ?_
  refine ⟨_, _, rfl, ?_⟩
  refine wa_nil ?_
  refine ⟨((6 : Int), x4), G0, b, g, r3.2, hne, rfl, rfl, (Out.sb h).imp (fun r5 h => ?_) (fun _ he => he.elim)⟩
  refine ⟨_, _, rfl, lt_ rfl, lt_ rfl, ?_⟩
  refine wb_let h (fun one6 => [.sh (D.scr script1), .sh (.adr b), .sh ((eRul C_Ruler) one6), .sh ((eRul C_Ruler) r5.1), .no, .no, .no, .no, .no, .no, .no]) rfl fun one6 h => ?_
  refine wb_let h (fun other7 => [.sh (D.scr script1), .sh (.adr b), .sh ((eRul C_Ruler) one6), .sh ((eRul C_Ruler) other7), .no, .no, .no, .no, .no, .no, .no]) rfl fun other7 h => ?_
  -- 182
  refine wb_forR (β := Bool) [4] (σT := Bx) (ρ := (Bool × Bx)) (fun s8 => [.sh (D.scr script1), .sh (.adr b), .sh ((eRul C_Ruler) one6), .sh ((eRul C_Ruler) other7), .no, .no, .no, .no, .no, .no, .no]) (fun s8 => bxG G0 b g s8) eI (fun v => (fun v => .sh (eB v)) v.1) (fun v => bxG G0 b g v.2) hp rfl ?_
  refine wi_rng1 rfl B.range ?_
  refine we_int ?_
  refine ⟨(4 : Int), rfl, ⟨by decide, by decide⟩, ?_⟩
  refine ⟨(rgI 0 (4 : Int)), r5.2, _, _, _, _, rfl, (.eq (.eq (.eq (.eq (.no (.no (.no (.no (.no (.no (.no .nil))))))))))), rfl, h, fun s8 x10 Q' h => ?_, (fun v h => h _), fun s9 h => ?_⟩
  · skip
    refine wg_name 4 nd rfl (by walk_at "vis") (by decide) (lt_ rfl) ?_
    refine wb_env [.sh (D.scr script1), .sh (.adr b), .sh ((eRul C_Ruler) one6), .sh ((eRul C_Ruler) other7), .sh (eI x10), .no, .no, .no, .no, .no, .no] rfl ?_
    -- 183
    refine wb_cons (ws_set 5 nd rfl (by walk_at "vis") ?_)
    refine we_ix (fun _ _ => rfl) ?_
    refine we_lst ?_
    refine wa_cons ?_
    refine we_bin ?_
    refine we_cal tk c_law_take hr rfl ?_
    refine wa_cons ?_
    refine we_var 1 rfl (by walk_at "vis") rfl ?_
    refine ⟨_, _, rfl, ?_⟩
    refine wa_cons ?_
    refine we_int ?_
    refine ⟨_, _, rfl, ?_⟩
    refine wa_nil ?_
    refine ⟨(601 : Int), G0, b, g, s8, hne, rfl, rfl, (Out.sb h).imp (fun r11 h => ?_) (fun _ he => he.elim)⟩
    refine we_int ?_
    refine ⟨_, _, .inl rfl, .inl rfl, ?_⟩
    refine opw_sub ?_
    refine ⟨_, _, rfl, ?_⟩
    refine wa_cons ?_
    refine we_bin ?_
    refine we_cal tk c_law_take hr rfl ?_
    refine wa_cons ?_
    refine we_var 1 rfl (by walk_at "vis") rfl ?_
    refine ⟨_, _, rfl, ?_⟩
    refine wa_cons ?_
    refine we_int ?_
    refine ⟨_, _, rfl, ?_⟩
    refine wa_nil ?_
    refine ⟨(41 : Int), G0, b, g, r11.2, hne, rfl, rfl, (Out.sb h).imp (fun r12 h => ?_) (fun _ he => he.elim)⟩
    refine we_int ?_
    refine ⟨_, _, .inl rfl, .inl rfl, ?_⟩
    refine opw_sub ?_
    refine ⟨_, _, rfl, ?_⟩
    refine wa_nil ?_
    refine ⟨lt_ rfl, ?_⟩
    refine we_cal tk c_law_take hr rfl ?_
    refine wa_cons ?_
    refine we_var 1 rfl (by walk_at "vis") rfl ?_
    refine ⟨_, _, rfl, ?_⟩
    refine wa_cons ?_
    refine we_int ?_
    refine ⟨_, _, rfl, ?_⟩
    refine wa_nil ?_
    refine ⟨(2 : Int), G0, b, g, r12.2, hne, rfl, rfl, (Out.sb h).imp (fun r13 h => ?_) (fun _ he => he.elim)⟩
    obtain ⟨x14, hx14, h⟩ := Out.gt h
    refine ⟨_, _, .inl rfl, .inl rfl, ?_⟩
    refine t_ix (f := eI) hx14 ?_
    refine ⟨lt_ rfl, _, rfl, ?_⟩
    refine wb_env [.sh (D.scr script1), .sh (.adr b), .sh ((eRul C_Ruler) one6), .sh ((eRul C_Ruler) other7), .sh (eI x10), .sh (eI x14), .no, .no, .no, .no, .no] rfl ?_
    -- 184
    refine wb_cons (ws_if ?_)
    refine wt_not ?_
    refine wt_val (fun _ => rfl) ?_
    refine we_cal tk c_law_alike_1 hr rfl ?_
    refine wa_cons ?_
    refine we_cal tk c_joint_spans hr rfl ?_
    refine wa_cons ?_
    refine we_var 2 rfl (by walk_at "vis") rfl ?_
    refine ⟨_, _, rfl, ?_⟩
    refine wa_cons ?_
    refine we_var 3 rfl (by walk_at "vis") rfl ?_
    refine ⟨_, _, rfl, ?_⟩
    refine wa_cons ?_
    refine we_var 5 rfl (by walk_at "vis") rfl ?_
    refine ⟨_, _, rfl, ?_⟩
    refine wa_nil ?_
    refine ⟨(one6, other7, x14), rfl, (Out.sb h).imp (fun r15 h => ?_) (fun _ he => he.elim)⟩
    refine ⟨_, _, rfl, ?_⟩
    refine wa_cons ?_
    refine we_cal tk c_law_joint hr rfl ?_
    refine wa_cons ?_
    refine we_var 2 rfl (by walk_at "vis") rfl ?_
    refine ⟨_, _, rfl, ?_⟩
    refine wa_cons ?_
    refine we_var 3 rfl (by walk_at "vis") rfl ?_
    refine ⟨_, _, rfl, ?_⟩
    refine wa_cons ?_
    refine we_var 5 rfl (by walk_at "vis") rfl ?_
    refine ⟨_, _, rfl, ?_⟩
    refine wa_nil ?_
    refine ⟨(one6, other7, x14), rfl, (Out.sb h).imp (fun r16 h => ?_) (fun _ he => he.elim)⟩
    refine ⟨_, _, rfl, ?_⟩
    refine wa_nil ?_
    obtain ⟨g17, h⟩ := Out.gd h
    refine ⟨(eL eI) r15, by rw [← g17.1], g17.2, ?_⟩
    refine ⟨_, rfl, ?_⟩
    refine ⟨fun hc => ?_, fun hc => ?_⟩
    · skip
      have h := (Out.iteb h).1 hc
      -- 185
      refine wb_cons (ws_ret ?_)
      refine we_bl ?_
      refine ⟨_, rfl, ?_⟩
      exact ⟨(false, r13.2), rfl, rfl, h⟩
    have h := (Out.iteb h).2 hc
    refine wb_nil ?_
    exact wb_nil ⟨r13.2, (.eq (.eq (.eq (.eq (.no (.no (.no (.no (.no (.no (.no .nil))))))))))), rfl, h⟩
  -- 186
  refine wb_cons (ws_set 6 nd rfl (by walk_at "vis") ?_)
  refine we_bin ?_
  refine we_cal tk c_law_take hr rfl ?_
  refine wa_cons ?_
  refine we_var 1 rfl (by walk_at "vis") rfl ?_
  refine ⟨_, _, rfl, ?_⟩
  refine wa_cons ?_
  refine we_int ?_
  refine ⟨_, _, rfl, ?_⟩
  refine wa_nil ?_
  refine ⟨(60 : Int), G0, b, g, s9, hne, rfl, rfl, (Out.sb h).imp (fun r18 h => ?_) (fun _ he => he.elim)⟩
  refine we_int ?_
  refine ⟨_, _, .inl rfl, .inl rfl, ?_⟩
  refine opw_sub ?_
  refine ⟨lt_ rfl, _, rfl, ?_⟩
  refine wb_let h (fun lowest19 => [.sh (D.scr script1), .sh (.adr b), .sh ((eRul C_Ruler) one6), .sh ((eRul C_Ruler) other7), .no, .no, .sh (eI lowest19), .no, .no, .no, .no]) rfl fun lowest19 h => ?_
  -- 187
  refine wb_cons (ws_set 7 nd rfl (by walk_at "vis") ?_)
  refine we_bin ?_
  refine we_var 6 rfl (by walk_at "vis") rfl ?_
  refine we_cal tk c_law_take hr rfl ?_
  refine wa_cons ?_
  refine we_var 1 rfl (by walk_at "vis") rfl ?_
  refine ⟨_, _, rfl, ?_⟩
  refine wa_cons ?_
  refine we_int ?_
  refine ⟨_, _, rfl, ?_⟩
  refine wa_nil ?_
  refine ⟨(30 : Int), G0, b, g, r18.2, hne, rfl, rfl, (Out.sb h).imp (fun r20 h => ?_) (fun _ he => he.elim)⟩
  refine ⟨_, _, .inl rfl, .inl rfl, ?_⟩
  refine opw_add ?_
  refine ⟨lt_ rfl, _, rfl, ?_⟩
  refine wb_let h (fun highest21 => [.sh (D.scr script1), .sh (.adr b), .sh ((eRul C_Ruler) one6), .sh ((eRul C_Ruler) other7), .no, .no, .sh (eI lowest19), .sh (eI highest21), .no, .no, .no]) rfl fun highest21 h => ?_
  -- 188
  refine wb_setLcQ [("_law_shift", 5)] 8 rfl nd rfl rfl (by rfl) (blkOk_by (by rfl)) (lcS_preP (γ := Bool) [("_law_shift", 5)] [.sh (D.scr script1), .sh (.adr b), .sh ((eRul C_Ruler) one6), .sh ((eRul C_Ruler) other7), .no, .no, .sh (eI lowest19), .sh (eI highest21), .no, .no, .no] (fun _ : Unit => bxG G0 b g r20.2) (en := eI) eI ?_)
  refine wi_rng2 rfl B.range ?_
  refine we_var 6 rfl (by walk_at "vis") rfl ?_
  refine we_bin ?_
  refine we_var 7 rfl (by walk_at "vis") rfl ?_
  refine we_int ?_
  refine ⟨_, _, .inl rfl, .inl rfl, ?_⟩
  refine opw_add ?_
  obtain ⟨g23, h⟩ := Out.gd h
  obtain ⟨g24, h⟩ := Out.gd h
  refine ⟨lowest19, (highest21 + (1 : Int)), rfl, rfl, g23, g24, ?_⟩
  obtain ⟨g25, h⟩ := Out.gd h
  refine ⟨(rgI lowest19 (highest21 + (1 : Int))), (), _, _, _, _, rfl, g25, Wk.refl _, rfl, h, fun s26 x22 Q' h => ?_, fun l27 h => ?_⟩
  · skip
    rintro Y ⟨s1, H1, C1, cl, fp, rfl⟩
    refine wg_name 5 nd rfl (by walk_at "vis") (by decide) (lt_ rfl) ?_
    rintro Y ⟨s1, H1, C1, cl, fp, rfl⟩
    refine we_b1 (x := "len") (id := "len") rfl B.len bt_len ?_
    refine we_cal (BlkX.tk ⟨_, _, _, _, _, rfl⟩) c_law_joint hr rfl ?_
    refine wa_cons ?_
    refine we_var 2 rfl (by walk_at "vis") rfl ?_
    refine ⟨_, _, rfl, ?_⟩
    refine wa_cons ?_
    refine we_var 3 rfl (by walk_at "vis") rfl ?_
    refine ⟨_, _, rfl, ?_⟩
    refine wa_cons ?_
    refine we_var 5 rfl (by walk_at "vis") rfl ?_
    refine ⟨_, _, rfl, ?_⟩
    refine wa_nil ?_
    refine ⟨(one6, other7, x22), rfl, (Out.nx (Out.sb h)).imp (fun r28 h => ?_) (fun _ he => he)⟩
    refine ⟨_, .inl rfl, ?_⟩
    refine t_len (f := eI) r28 ?_
    exact ⟨((r28).length : Int), (), _, rfl, Wk.refl _, rfl, h⟩
  refine ⟨lt_ rfl, _, rfl, ?_⟩
  refine wb_env [.sh (D.scr script1), .sh (.adr b), .sh ((eRul C_Ruler) one6), .sh ((eRul C_Ruler) other7), .no, .no, .sh (eI lowest19), .sh (eI highest21), .own ((eL eI) l27.1), .no, .no] rfl ?_
  -- 189
  refine wb_cons (ws_if ?_)
  refine wt_not ?_
  refine wt_val (fun _ => rfl) ?_
  refine we_cal tk c_law_alike_0 hr rfl ?_
  refine wa_cons ?_
  refine we_cal tk c_best_shift hr rfl ?_
  refine wa_cons ?_
  refine we_var 2 rfl (by walk_at "vis") rfl ?_
  refine ⟨_, _, rfl, ?_⟩
  refine wa_cons ?_
  refine we_var 3 rfl (by walk_at "vis") rfl ?_
  refine ⟨_, _, rfl, ?_⟩
  refine wa_cons ?_
  refine we_var 6 rfl (by walk_at "vis") rfl ?_
  refine ⟨_, _, rfl, ?_⟩
  refine wa_cons ?_
  refine we_var 7 rfl (by walk_at "vis") rfl ?_
  refine ⟨_, _, rfl, ?_⟩
  refine wa_nil ?_
  refine ⟨(one6, other7, lowest19, highest21), rfl, (Out.sb h).imp (fun r29 h => ?_) (fun _ he => he.elim)⟩
  refine ⟨_, _, rfl, ?_⟩
  refine wa_cons ?_
  refine we_bin ?_
  refine we_var 6 rfl (by walk_at "vis") rfl ?_
  refine we_index ?_
  refine we_var 8 rfl (by walk_at "vis") rfl ?_
  refine ⟨_, .inl rfl, ?_⟩
  refine we_b1 (x := "max") (id := "max") rfl B.max bt_max ?_
  refine we_var 8 rfl (by walk_at "vis") rfl ?_
  refine ⟨_, .inl rfl, ?_⟩
  obtain ⟨x30, hx30, h⟩ := Out.gt h
  refine t_max rfl hx30 ?_
  refine ⟨_, _, .inl rfl, .inl rfl, ?_⟩
  obtain ⟨x31, hx31, h⟩ := Out.gt h
  refine t_index hx31 ?_
  refine ⟨_, _, .inl rfl, .inl rfl, ?_⟩
  refine opw_add ?_
  refine ⟨_, _, rfl, ?_⟩
  refine wa_nil ?_
  obtain ⟨g32, h⟩ := Out.gd h
  refine ⟨eI r29, by rw [← g32.1], g32.2, ?_⟩
  refine ⟨_, rfl, ?_⟩
  refine ⟨fun hc => ?_, fun hc => ?_⟩
  · skip
    have h := (Out.iteb h).1 hc
    -- 190
    refine wb_cons (ws_ret ?_)
    refine we_bl ?_
    refine ⟨_, rfl, ?_⟩
    exact h _
  have h := (Out.iteb h).2 hc
  refine wb_nil ?_
  -- 191
  refine wb_forR (β := Bool) [9] (σT := Unit) (ρ := (Bool × Bx)) (fun s33 => [.sh (D.scr script1), .sh (.adr b), .sh ((eRul C_Ruler) one6), .sh ((eRul C_Ruler) other7), .no, .no, .sh (eI lowest19), .sh (eI highest21), .own ((eL eI) l27.1), .no, .no]) (fun s33 => bxG G0 b g r20.2) (eP eIB eI) (fun v => (fun v => .sh (eB v)) v.1) (fun v => bxG G0 b g v.2) hp rfl ?_
  refine ti_tup (f := (eP eIB eI)) ?_
  refine we_tup ?_
  refine wa_cons ?_
  refine we_tup ?_
  refine wa_cons ?_
  refine we_int ?_
  refine ⟨_, _, rfl, ?_⟩
  refine wa_cons ?_
  refine we_int ?_
  refine ⟨_, _, rfl, ?_⟩
  refine wa_nil ?_
  refine ⟨lt_ rfl, ?_⟩
  refine ⟨_, _, rfl, ?_⟩
  refine wa_cons ?_
  refine we_tup ?_
  refine wa_cons ?_
  refine we_un rfl ?_
  refine we_int ?_
  refine ⟨_, rfl, ?_⟩
  refine ⟨_, _, rfl, ?_⟩
  refine wa_cons ?_
  refine we_int ?_
  refine ⟨_, _, rfl, ?_⟩
  refine wa_nil ?_
  refine ⟨lt_ rfl, ?_⟩
  refine ⟨_, _, rfl, ?_⟩
  refine wa_cons ?_
  refine we_tup ?_
  refine wa_cons ?_
  refine we_int ?_
  refine ⟨_, _, rfl, ?_⟩
  refine wa_cons ?_
  refine we_int ?_
  refine ⟨_, _, rfl, ?_⟩
  refine wa_nil ?_
  refine ⟨lt_ rfl, ?_⟩
  refine ⟨_, _, rfl, ?_⟩
  refine wa_cons ?_
  refine we_tup ?_
  refine wa_cons ?_
  refine we_bl ?_
  refine ⟨_, _, rfl, ?_⟩
  refine wa_cons ?_
  refine we_int ?_
  refine ⟨_, _, rfl, ?_⟩
  refine wa_nil ?_
  refine ⟨lt_ rfl, ?_⟩
  refine ⟨_, _, rfl, ?_⟩
  refine wa_nil ?_
  refine ⟨lt_ rfl, ?_⟩
  refine ⟨[(IB.i (((3 : Int), (2 : Int)).1), ((3 : Int), (2 : Int)).2), (IB.i ((-(301 : Int), (0 : Int)).1), (-(301 : Int), (0 : Int)).2), (IB.i (((0 : Int), (301 : Int)).1), ((0 : Int), (301 : Int)).2), (IB.b ((true, (3 : Int)).1), (true, (3 : Int)).2)], _, rfl, fun hl36 => ?_⟩
  refine ⟨[(IB.i (((3 : Int), (2 : Int)).1), ((3 : Int), (2 : Int)).2), (IB.i ((-(301 : Int), (0 : Int)).1), (-(301 : Int), (0 : Int)).2), (IB.i (((0 : Int), (301 : Int)).1), ((0 : Int), (301 : Int)).2), (IB.b ((true, (3 : Int)).1), (true, (3 : Int)).2)], (), _, _, _, _, rfl, (.eq (.eq (.eq (.eq (.no (.no (.eq (.eq (.eq (.no (.no .nil))))))))))), rfl, h, fun s33 x35 Q' h => ?_, (fun v h => h _), fun s34 h => ?_⟩
  · skip
    refine wg_name 9 nd rfl (by walk_at "vis") (by decide) (lt_ rfl) ?_
    refine wb_env [.sh (D.scr script1), .sh (.adr b), .sh ((eRul C_Ruler) one6), .sh ((eRul C_Ruler) other7), .no, .no, .sh (eI lowest19), .sh (eI highest21), .own ((eL eI) l27.1), .sh ((eP eIB eI) x35), .no] rfl ?_
    -- 192
    refine wb_cons (ws_if ?_)
    refine wt_cmp (nomark _) ?_
    refine we_lerr (k := 10) (cx := cx) eEr h l_law_error rfl tb rfl (bxG_tab hP0 hb0 hg0) hr (fun _ => rfl) (LamX.lamS_by (by rfl)) rfl (fun _ _ _ _ _ => rfl) (fun Y Q' E' hY h => ?_) (fun e37 h => ?_)
    · skip
      obtain ⟨A1, outer1, s1, H1, E1, f1, c1, F1, T1, hr, tk, rfl⟩ := hY
      refine we_env [.sh (D.scr script1), .sh (.adr b), .sh ((eRul C_Ruler) one6), .sh ((eRul C_Ruler) other7), .no, .no, .sh (eI lowest19), .sh (eI highest21), .no, .sh ((eP eIB eI) x35), .no] rfl ?_
      refine we_cal tk c_best_shift_n hr rfl ?_
      refine wa_cons ?_
      refine we_var 2 rfl (by walk_at "vis") rfl ?_
      refine ⟨_, _, rfl, ?_⟩
      refine wa_cons ?_
      refine we_var 3 rfl (by walk_at "vis") rfl ?_
      refine ⟨_, _, rfl, ?_⟩
      refine wa_cons ?_
      refine we_ix (fun _ _ => rfl) ?_
      refine we_var 9 rfl (by walk_at "vis") rfl ?_
      refine we_int ?_
      refine ⟨_, _, .inl rfl, .inl rfl, ?_⟩
      refine ixw_tup (xs := [eIB x35.1, eI x35.2]) (i := (0 : Int)) rfl ?_
      refine ⟨_, _, rfl, ?_⟩
      refine wa_cons ?_
      refine we_ix (fun _ _ => rfl) ?_
      refine we_var 9 rfl (by walk_at "vis") rfl ?_
      refine we_int ?_
      refine ⟨_, _, .inl rfl, .inl rfl, ?_⟩
      refine ixw_tup (xs := [eIB x35.1, eI x35.2]) (i := (1 : Int)) rfl ?_
      refine ⟨_, _, rfl, ?_⟩
      refine wa_nil ?_
      refine ⟨(one6, other7, x35.1, IB.i x35.2), rfl, (Out.sb h).imp (fun r38 h => ?_) (fun x he => ⟨rfl, x, rfl, he⟩)⟩
      exact ⟨rfl, _, h⟩
    refine we_str ?_
    refine ⟨_, _, .inl rfl, .inl rfl, ?_⟩
    refine opw_neC eqc_er hr.units e37 (Er.s z_InvalidNumber) ?_
    refine ⟨_, rfl, ?_⟩
    refine ⟨fun hc => ?_, fun hc => ?_⟩
    · skip
      have h := (Out.iteb h).1 hc
      -- 193
      refine wb_cons (ws_ret ?_)
      refine we_bl ?_
      refine ⟨_, rfl, ?_⟩
      exact ⟨(false, r20.2), rfl, rfl, h⟩
    have h := (Out.iteb h).2 hc
    refine wb_nil ?_
    exact wb_nil ⟨(), (.eq (.eq (.eq (.eq (.no (.no (.eq (.eq (.eq (.no (.no .nil))))))))))), rfl, h⟩
  -- 194
  refine wb_forR (β := Bool) [10] (σT := Unit) (ρ := (Bool × Bx)) (fun s39 => [.sh (D.scr script1), .sh (.adr b), .sh ((eRul C_Ruler) one6), .sh ((eRul C_Ruler) other7), .no, .no, .sh (eI lowest19), .sh (eI highest21), .own ((eL eI) l27.1), .no, .no]) (fun s39 => bxG G0 b g r20.2) eIB (fun v => (fun v => .sh (eB v)) v.1) (fun v => bxG G0 b g v.2) hp rfl ?_
  refine ti_tup (f := eIB) ?_
  refine we_tup ?_
  refine wa_cons ?_
  refine we_un rfl ?_
  refine we_int ?_
  refine ⟨_, rfl, ?_⟩
  refine ⟨_, _, rfl, ?_⟩
  refine wa_cons ?_
  refine we_int ?_
  refine ⟨_, _, rfl, ?_⟩
  refine wa_cons ?_
  refine we_bl ?_
  refine ⟨_, _, rfl, ?_⟩
  refine wa_nil ?_
  refine ⟨lt_ rfl, ?_⟩
  refine ⟨[IB.i (-(301 : Int)), IB.i (301 : Int), IB.b false], _, rfl, fun hl42 => ?_⟩
  refine ⟨[IB.i (-(301 : Int)), IB.i (301 : Int), IB.b false], (), _, _, _, _, rfl, (.eq (.eq (.eq (.eq (.no (.no (.eq (.eq (.eq (.no (.no .nil))))))))))), rfl, h, fun s39 x41 Q' h => ?_, (fun v h => h _), fun s40 h => ?_⟩
  · skip
    refine wg_name 10 nd rfl (by walk_at "vis") (by decide) (lt_ rfl) ?_
    refine wb_env [.sh (D.scr script1), .sh (.adr b), .sh ((eRul C_Ruler) one6), .sh ((eRul C_Ruler) other7), .no, .no, .sh (eI lowest19), .sh (eI highest21), .own ((eL eI) l27.1), .no, .sh (eIB x41)] rfl ?_
    -- 195
    refine wb_cons (ws_if ?_)
    refine wt_cmp (nomark _) ?_
    refine we_lerr (k := 10) (cx := cx) eEr h l_law_error rfl tb rfl (bxG_tab hP0 hb0 hg0) hr (fun _ => rfl) (LamX.lamS_by (by rfl)) rfl (fun _ _ _ _ _ => rfl) (fun Y Q' E' hY h => ?_) (fun e43 h => ?_)
    · skip
      obtain ⟨A1, outer1, s1, H1, E1, f1, c1, F1, T1, hr, tk, rfl⟩ := hY
      refine we_env [.sh (D.scr script1), .sh (.adr b), .sh ((eRul C_Ruler) one6), .sh ((eRul C_Ruler) other7), .no, .no, .sh (eI lowest19), .sh (eI highest21), .no, .no, .sh (eIB x41)] rfl ?_
      refine we_cal tk c_joint_spans_n hr rfl ?_
      refine wa_cons ?_
      refine we_var 2 rfl (by walk_at "vis") rfl ?_
      refine ⟨_, _, rfl, ?_⟩
      refine wa_cons ?_
      refine we_var 3 rfl (by walk_at "vis") rfl ?_
      refine ⟨_, _, rfl, ?_⟩
      refine wa_cons ?_
      refine we_var 10 rfl (by walk_at "vis") rfl ?_
      refine ⟨_, _, rfl, ?_⟩
      refine wa_nil ?_
      refine ⟨(one6, other7, x41), rfl, (Out.sb h).imp (fun r44 h => ?_) (fun x he => ⟨rfl, x, rfl, he⟩)⟩
      exact ⟨rfl, _, h⟩
    refine we_str ?_
    refine ⟨_, _, .inl rfl, .inl rfl, ?_⟩
    refine opw_neC eqc_er hr.units e43 (Er.s z_InvalidNumber) ?_
    refine ⟨_, rfl, ?_⟩
    refine ⟨fun hc => ?_, fun hc => ?_⟩
    · skip
      have h := (Out.iteb h).1 hc
      -- 196
      refine wb_cons (ws_ret ?_)
      refine we_bl ?_
      refine ⟨_, rfl, ?_⟩
      exact ⟨(false, r20.2), rfl, rfl, h⟩
    have h := (Out.iteb h).2 hc
    refine wb_nil ?_
    exact wb_nil ⟨(), (.eq (.eq (.eq (.eq (.no (.no (.eq (.eq (.eq (.no (.no .nil))))))))))), rfl, h⟩
  -- 197
  refine wb_cons (ws_ret ?_)
  refine we_andN ?_
  refine we_cmp (nomark _) ?_
  refine we_cal tk c_best_shift hr rfl ?_
  refine wa_cons ?_
  refine we_var 2 rfl (by walk_at "vis") rfl ?_
  refine ⟨_, _, rfl, ?_⟩
  refine wa_cons ?_
  refine we_var 3 rfl (by walk_at "vis") rfl ?_
  refine ⟨_, _, rfl, ?_⟩
  refine wa_cons ?_
  refine we_int ?_
  refine ⟨_, _, rfl, ?_⟩
  refine wa_cons ?_
  refine we_int ?_
  refine ⟨_, _, rfl, ?_⟩
  refine wa_nil ?_
  refine ⟨(one6, other7, (300 : Int), (300 : Int)), rfl, (Out.sb h).imp (fun r45 h => ?_) (fun _ he => he.elim)⟩
  refine we_int ?_
  refine ⟨_, _, .inl rfl, .inl rfl, ?_⟩
  refine opw_eqI ?_
  refine ⟨_, _, _, _, _, _, rfl, h, fun _ Q' h => ?_, fun c46 h => ?_⟩
  · skip
    refine we_one ?_
    refine we_cmp (nomark _) ?_
    refine we_cal tk c_best_shift hr rfl ?_
    refine wa_cons ?_
    refine we_var 2 rfl (by walk_at "vis") rfl ?_
    refine ⟨_, _, rfl, ?_⟩
    refine wa_cons ?_
    refine we_var 3 rfl (by walk_at "vis") rfl ?_
    refine ⟨_, _, rfl, ?_⟩
    refine wa_cons ?_
    refine we_un rfl ?_
    refine we_int ?_
    refine ⟨_, rfl, ?_⟩
    refine ⟨_, _, rfl, ?_⟩
    refine wa_cons ?_
    refine we_un rfl ?_
    refine we_int ?_
    refine ⟨_, rfl, ?_⟩
    refine ⟨_, _, rfl, ?_⟩
    refine wa_nil ?_
    refine ⟨(one6, other7, -(300 : Int), -(300 : Int)), rfl, (Out.sb h).imp (fun r47 h => ?_) (fun _ he => he.elim)⟩
    refine we_un rfl ?_
    refine we_int ?_
    refine ⟨_, rfl, ?_⟩
    refine ⟨_, _, .inl rfl, .inl rfl, ?_⟩
    refine opw_eqI ?_
    exact ⟨_, rfl, rfl, rfl, h⟩
  refine ⟨_, rfl, ?_⟩
  exact h _
theorem all_mk {l : PySem.W.OpenLaw} {w : World} {K : PySem.W.Frag} {h : Heap} {mg : Str → Option Value} {fa : Addr} (X : K.In h) (G : h.Ns mainGlobals mg) (hfa : mg "law" = some (.ref fa))
    {t_MAX_ERROR : Tok} {t_MAX_LENGTH : Tok} {t_MAX_MARKS : Tok} {t_MIN_MARKS : Tok} {t_MAX_SHIFT : Tok} {C_Ruler : Addr} {q_Ruler_own_error : Addr} {q_Ruler_own_marks : Addr} {Cx_0 : Addr} {Cx_1 : Addr} {Cx_2 : Addr} {Cx_3 : Addr} {Cx_4 : Addr} {Cx_5 : Addr} {Cx_6 : Addr} {Cx_7 : Addr} {Cx_8 : Addr} {Cx_9 : Addr} {Cx_10 : Addr} {f_law_alike : Addr} {oc1 kV1 dc1 pm1 cd1 ct1 : Value} {od1 an1 : Option Addr} {sl1 : Array (Option Value)} {f_law_begun : Addr} {oc2 kV2 dc2 pm2 cd2 ct2 : Value} {od2 an2 : Option Addr} {sl2 : Array (Option Value)} {f_law_different : Addr} {oc3 kV3 dc3 pm3 cd3 ct3 : Value} {od3 an3 : Option Addr} {sl3 : Array (Option Value)} {f_Ruler_marks : Addr} {p_Ruler_marks : Addr} {r_Ruler_marks : List Value} {oc4 kV4 dc4 pm4 cd4 ct4 : Value} {od4 an4 : Option Addr} {sl4 : Array (Option Value)} {f_law_joint : Addr} {oc5 kV5 dc5 pm5 cd5 ct5 : Value} {od5 an5 : Option Addr} {sl5 : Array (Option Value)} {f_law_take : Addr} {oc6 kV6 dc6 pm6 cd6 ct6 : Value} {od6 an6 : Option Addr} {sl6 : Array (Option Value)} {f_law_marks : Addr} {oc7 kV7 dc7 pm7 cd7 ct7 : Value} {od7 an7 : Option Addr} {sl7 : Array (Option Value)} {f_is_number : Addr} {oc8 kV8 dc8 pm8 cd8 ct8 : Value} {od8 an8 : Option Addr} {sl8 : Array (Option Value)} {f_Ruler_init : Addr} {oc9 kV9 dc9 pm9 cd9 ct9 : Value} {od9 an9 : Option Addr} {sl9 : Array (Option Value)} {f_law_ruler : Addr} {oc10 kV10 dc10 pm10 cd10 ct10 : Value} {od10 an10 : Option Addr} {sl10 : Array (Option Value)} {f_spread_of : Addr} {oc11 kV11 dc11 pm11 cd11 ct11 : Value} {od11 an11 : Option Addr} {sl11 : Array (Option Value)} {f_spans_at : Addr} {oc12 kV12 dc12 pm12 cd12 ct12 : Value} {od12 an12 : Option Addr} {sl12 : Array (Option Value)} {f_best_shift : Addr} {oc13 kV13 dc13 pm13 cd13 ct13 : Value} {od13 an13 : Option Addr} {sl13 : Array (Option Value)} {f_joint_spans : Addr} {oc14 kV14 dc14 pm14 cd14 ct14 : Value} {od14 an14 : Option Addr} {sl14 : Array (Option Value)} {f_law_error : Addr} {oc15 kV15 dc15 pm15 cd15 ct15 : Value} {od15 an15 : Option Addr} {sl15 : Array (Option Value)} {f_law : Addr} {oc16 kV16 dc16 pm16 ct16 : Value} {od16 an16 : Option Addr} {sl16 : Array (Option Value)} {c_law P_law : Addr} {e0 : Value} {d0 : Option Addr} {vs0 : Array Value} {sl0 : Array (Option Value)}
    (z_int : PySem.W.nsIn K mainGlobals "int" = some none)
    (z_len : PySem.W.nsIn K mainGlobals "len" = some none)
    (z_list : PySem.W.nsIn K mainGlobals "list" = some none)
    (z_range : PySem.W.nsIn K mainGlobals "range" = some none)
    (z_sorted : PySem.W.nsIn K mainGlobals "sorted" = some none)
    (z_tuple : PySem.W.nsIn K mainGlobals "tuple" = some none)
    (z_dict : PySem.W.nsIn K mainGlobals "dict" = some none)
    (z_isinstance : PySem.W.nsIn K mainGlobals "isinstance" = some none)
    (z_bool : PySem.W.nsIn K mainGlobals "bool" = some none)
    (z_str : PySem.W.nsIn K mainGlobals "str" = some none)
    (z_enumerate : PySem.W.nsIn K mainGlobals "enumerate" = some none)
    (z_reversed : PySem.W.nsIn K mainGlobals "reversed" = some none)
    (z_abs : PySem.W.nsIn K mainGlobals "abs" = some none)
    (z_min : PySem.W.nsIn K mainGlobals "min" = some none)
    (z_max : PySem.W.nsIn K mainGlobals "max" = some none)
    (z_sum : PySem.W.nsIn K mainGlobals "sum" = some none)
    (z_zip : PySem.W.nsIn K mainGlobals "zip" = some none)
    (z_set : PySem.W.nsIn K mainGlobals "set" = some none)
    (z_all : PySem.W.nsIn K mainGlobals "all" = some none)
    (z_divmod : PySem.W.nsIn K mainGlobals "divmod" = some none)
    (g_MAX_ERROR : PySem.W.nsIn K mainGlobals "MAX_ERROR" = some (some (.int 9 t_MAX_ERROR)))
    (g_MAX_LENGTH : PySem.W.nsIn K mainGlobals "MAX_LENGTH" = some (some (.int 300 t_MAX_LENGTH)))
    (g_MAX_MARKS : PySem.W.nsIn K mainGlobals "MAX_MARKS" = some (some (.int 12 t_MAX_MARKS)))
    (g_MIN_MARKS : PySem.W.nsIn K mainGlobals "MIN_MARKS" = some (some (.int 2 t_MIN_MARKS)))
    (g_MAX_SHIFT : PySem.W.nsIn K mainGlobals "MAX_SHIFT" = some (some (.int 300 t_MAX_SHIFT)))
    (g_Ruler : PySem.W.nsIn K mainGlobals "Ruler" = some (some (.ref C_Ruler)))
    (pg_Ruler : PySem.W.plainGet K C_Ruler Str.empty = true)
    (ic_Ruler : PySem.W.isClsIn K C_Ruler = true)
    (po_Ruler : PySem.W.plainOver K C_Ruler = true)
    (sa_Ruler : PySem.W.findIn K (.ref C_Ruler) "__setattr__" = some (some (.builtin "object.__setattr__")))
    (ca_Ruler : PySem.W.findIn K (.ref C_Ruler) "__class__" = some (some (.builtin "object.__class__")))
    (cn_Ruler : PySem.W.specialIn K (.builtin "object.__class__") "__get__" = some (some (.builtin "getset_descriptor.__get__")))
    (ct_Ruler : PySem.W.takesIn K (.builtin "object.__class__") = some true)
    (cm_Ruler : PySem.W.mroIn K C_Ruler (.type "object") = some true)
    (sa_Ruler_own_error : PySem.W.findIn K (.ref C_Ruler) "own_error" = some (some (.ref q_Ruler_own_error)))
    (sg_Ruler_own_error : PySem.W.specialIn K (.ref q_Ruler_own_error) "__get__" = some (some (.builtin "member_descriptor.__get__")))
    (sk_Ruler_own_error : PySem.W.takesIn K (.ref q_Ruler_own_error) = some true)
    (sy_Ruler_own_error : PySem.W.typeIn K (.ref q_Ruler_own_error) = some (.type "member_descriptor"))
    (sx_Ruler_own_error : PySem.W.slotIn K q_Ruler_own_error C_Ruler = some 0)
    (sa_Ruler_own_marks : PySem.W.findIn K (.ref C_Ruler) "own_marks" = some (some (.ref q_Ruler_own_marks)))
    (sg_Ruler_own_marks : PySem.W.specialIn K (.ref q_Ruler_own_marks) "__get__" = some (some (.builtin "member_descriptor.__get__")))
    (sk_Ruler_own_marks : PySem.W.takesIn K (.ref q_Ruler_own_marks) = some true)
    (sy_Ruler_own_marks : PySem.W.typeIn K (.ref q_Ruler_own_marks) = some (.type "member_descriptor"))
    (sx_Ruler_own_marks : PySem.W.slotIn K q_Ruler_own_marks C_Ruler = some 1)
    (nf_Ruler : PySem.W.notFirst K C_Ruler (.ref C_Ruler) = true)
    (g_RackError : PySem.W.nsIn K mainGlobals "RackError" = some (some (.ref Cx_0)))
    (xt_RackError : PySem.W.typeIn K (.ref Cx_0) = some (.type "type"))
    (xi_RackError : PySem.W.isClsIn K Cx_0 = true)
    (xb_RackError : PySem.W.subIn K (.ref Cx_0) (.type "BaseException") = some true)
    (g_InvalidRuler : PySem.W.nsIn K mainGlobals "InvalidRuler" = some (some (.ref Cx_1)))
    (xt_InvalidRuler : PySem.W.typeIn K (.ref Cx_1) = some (.type "type"))
    (xi_InvalidRuler : PySem.W.isClsIn K Cx_1 = true)
    (xb_InvalidRuler : PySem.W.subIn K (.ref Cx_1) (.type "BaseException") = some true)
    (g_InvalidRack : PySem.W.nsIn K mainGlobals "InvalidRack" = some (some (.ref Cx_2)))
    (xt_InvalidRack : PySem.W.typeIn K (.ref Cx_2) = some (.type "type"))
    (xi_InvalidRack : PySem.W.isClsIn K Cx_2 = true)
    (xb_InvalidRack : PySem.W.subIn K (.ref Cx_2) (.type "BaseException") = some true)
    (g_UnknownName : PySem.W.nsIn K mainGlobals "UnknownName" = some (some (.ref Cx_3)))
    (xt_UnknownName : PySem.W.typeIn K (.ref Cx_3) = some (.type "type"))
    (xi_UnknownName : PySem.W.isClsIn K Cx_3 = true)
    (xb_UnknownName : PySem.W.subIn K (.ref Cx_3) (.type "BaseException") = some true)
    (g_InvalidEnd : PySem.W.nsIn K mainGlobals "InvalidEnd" = some (some (.ref Cx_4)))
    (xt_InvalidEnd : PySem.W.typeIn K (.ref Cx_4) = some (.type "type"))
    (xi_InvalidEnd : PySem.W.isClsIn K Cx_4 = true)
    (xb_InvalidEnd : PySem.W.subIn K (.ref Cx_4) (.type "BaseException") = some true)
    (g_InvalidPlace : PySem.W.nsIn K mainGlobals "InvalidPlace" = some (some (.ref Cx_5)))
    (xt_InvalidPlace : PySem.W.typeIn K (.ref Cx_5) = some (.type "type"))
    (xi_InvalidPlace : PySem.W.isClsIn K Cx_5 = true)
    (xb_InvalidPlace : PySem.W.subIn K (.ref Cx_5) (.type "BaseException") = some true)
    (g_InvalidNumber : PySem.W.nsIn K mainGlobals "InvalidNumber" = some (some (.ref Cx_6)))
    (xt_InvalidNumber : PySem.W.typeIn K (.ref Cx_6) = some (.type "type"))
    (xi_InvalidNumber : PySem.W.isClsIn K Cx_6 = true)
    (xb_InvalidNumber : PySem.W.subIn K (.ref Cx_6) (.type "BaseException") = some true)
    (g_InvalidGaps : PySem.W.nsIn K mainGlobals "InvalidGaps" = some (some (.ref Cx_7)))
    (xt_InvalidGaps : PySem.W.typeIn K (.ref Cx_7) = some (.type "type"))
    (xi_InvalidGaps : PySem.W.isClsIn K Cx_7 = true)
    (xb_InvalidGaps : PySem.W.subIn K (.ref Cx_7) (.type "BaseException") = some true)
    (g_InvalidPiece : PySem.W.nsIn K mainGlobals "InvalidPiece" = some (some (.ref Cx_8)))
    (xt_InvalidPiece : PySem.W.typeIn K (.ref Cx_8) = some (.type "type"))
    (xi_InvalidPiece : PySem.W.isClsIn K Cx_8 = true)
    (xb_InvalidPiece : PySem.W.subIn K (.ref Cx_8) (.type "BaseException") = some true)
    (g_InvalidDistances : PySem.W.nsIn K mainGlobals "InvalidDistances" = some (some (.ref Cx_9)))
    (xt_InvalidDistances : PySem.W.typeIn K (.ref Cx_9) = some (.type "type"))
    (xi_InvalidDistances : PySem.W.isClsIn K Cx_9 = true)
    (xb_InvalidDistances : PySem.W.subIn K (.ref Cx_9) (.type "BaseException") = some true)
    (g_TooMany : PySem.W.nsIn K mainGlobals "TooMany" = some (some (.ref Cx_10)))
    (xt_TooMany : PySem.W.typeIn K (.ref Cx_10) = some (.type "type"))
    (xi_TooMany : PySem.W.isClsIn K Cx_10 = true)
    (xb_TooMany : PySem.W.subIn K (.ref Cx_10) (.type "BaseException") = some true)
    (xq_InvalidNumber : PySem.W.excIn K Cx_6 [.type "ValueError", .type "Exception", .type "BaseException", .type "object"] "ValueError.__new__" = true)
    (xk_InvalidNumber : PySem.W.keepIn K (.ref Cx_6) = true)
    (xg_InvalidNumber : PySem.W.findIn K (.ref Cx_6) "__getattribute__" = some (some (.builtin "BaseException.__getattribute__")))
    (xa_InvalidNumber : PySem.W.findIn K (.ref Cx_6) "__getattr__" = some none)
    (xd_InvalidNumber : PySem.W.hasDictIn K Cx_6 = true)
    (xl_InvalidNumber : PySem.W.findIn K (.ref Cx_6) "__class__" = some (some (.builtin "object.__class__")))
    (xn_InvalidNumber : PySem.W.specialIn K (.builtin "object.__class__") "__get__" = some (some (.builtin "getset_descriptor.__get__")))
    (xo_InvalidNumber : PySem.W.takesIn K (.builtin "object.__class__") = some true)
    (xr_InvalidNumber : PySem.W.mroIn K Cx_6 (.type "object") = some true)
    (xv_InvalidNumber : PySem.W.subIn K (.ref Cx_6) (.type "ValueError") = some true)
    (xe_InvalidNumber : PySem.W.subIn K (.ref Cx_6) (.ref Cx_0) = some true)
    (xd_RackError : PySem.W.hasDictIn K Cx_0 = true)
    (ne_6_9 : ((Value.ref Cx_6) == (.ref Cx_9)) = false)
    (sb_6_9 : PySem.W.subIn K (.ref Cx_6) (.ref Cx_9) = some false)
    (ne_6_4 : ((Value.ref Cx_6) == (.ref Cx_4)) = false)
    (sb_6_4 : PySem.W.subIn K (.ref Cx_6) (.ref Cx_4) = some false)
    (ne_6_7 : ((Value.ref Cx_6) == (.ref Cx_7)) = false)
    (sb_6_7 : PySem.W.subIn K (.ref Cx_6) (.ref Cx_7) = some false)
    (ne_6_8 : ((Value.ref Cx_6) == (.ref Cx_8)) = false)
    (sb_6_8 : PySem.W.subIn K (.ref Cx_6) (.ref Cx_8) = some false)
    (ne_6_5 : ((Value.ref Cx_6) == (.ref Cx_5)) = false)
    (sb_6_5 : PySem.W.subIn K (.ref Cx_6) (.ref Cx_5) = some false)
    (ne_6_2 : ((Value.ref Cx_6) == (.ref Cx_2)) = false)
    (sb_6_2 : PySem.W.subIn K (.ref Cx_6) (.ref Cx_2) = some false)
    (ne_6_1 : ((Value.ref Cx_6) == (.ref Cx_1)) = false)
    (sb_6_1 : PySem.W.subIn K (.ref Cx_6) (.ref Cx_1) = some false)
    (ne_6_10 : ((Value.ref Cx_6) == (.ref Cx_10)) = false)
    (sb_6_10 : PySem.W.subIn K (.ref Cx_6) (.ref Cx_10) = some false)
    (ne_6_3 : ((Value.ref Cx_6) == (.ref Cx_3)) = false)
    (sb_6_3 : PySem.W.subIn K (.ref Cx_6) (.ref Cx_3) = some false)
    (zv_VE : PySem.W.nsIn K mainGlobals "ValueError" = some none)
    (a_law_alike : PySem.W.nsIn K mainGlobals "_law_alike" = some (some (.ref f_law_alike)))
    (l_law_alike : K.lookup f_law_alike = some ⟨oc1, od1, .func (PySem.W.fnOf "_law_alike" "_law_alike" (defArgs s_law_alike) (defBody s_law_alike) (defScope s_law_alike) .none kV1 dc1 pm1 an1 cd1 ct1), sl1⟩)
    (c_law_alike : PySem.W.codeIn K cd1 "_law_alike" = true)
    (kp_law_alike : PySem.W.keepIn K (.ref f_law_alike) = true)
    (a_law_begun : PySem.W.nsIn K mainGlobals "_law_begun" = some (some (.ref f_law_begun)))
    (l_law_begun : K.lookup f_law_begun = some ⟨oc2, od2, .func (PySem.W.fnOf "_law_begun" "_law_begun" (defArgs s_law_begun) (defBody s_law_begun) (defScope s_law_begun) .none kV2 dc2 pm2 an2 cd2 ct2), sl2⟩)
    (c_law_begun : PySem.W.codeIn K cd2 "_law_begun" = true)
    (kp_law_begun : PySem.W.keepIn K (.ref f_law_begun) = true)
    (a_law_different : PySem.W.nsIn K mainGlobals "_law_different" = some (some (.ref f_law_different)))
    (l_law_different : K.lookup f_law_different = some ⟨oc3, od3, .func (PySem.W.fnOf "_law_different" "_law_different" (defArgs s_law_different) (defBody s_law_different) (defScope s_law_different) .none kV3 dc3 pm3 an3 cd3 ct3), sl3⟩)
    (c_law_different : PySem.W.codeIn K cd3 "_law_different" = true)
    (kp_law_different : PySem.W.keepIn K (.ref f_law_different) = true)
    (at_Ruler_marks : PySem.W.findIn K (.ref C_Ruler) "marks" = some (some (.ref p_Ruler_marks)))
    (sp_Ruler_marks : PySem.W.specialIn K (.ref p_Ruler_marks) "__get__" = some (some (.builtin "property.__get__")))
    (tk_Ruler_marks : PySem.W.takesIn K (.ref p_Ruler_marks) = some true)
    (rc_Ruler_marks : PySem.W.recIn K p_Ruler_marks "property" = some (.ref f_Ruler_marks :: r_Ruler_marks))
    (l_Ruler_marks : K.lookup f_Ruler_marks = some ⟨oc4, od4, .func (PySem.W.fnOf "marks" "Ruler.marks" (defArgs s_Ruler_marks) (defBody s_Ruler_marks) (defScope s_Ruler_marks) .none kV4 dc4 pm4 an4 cd4 ct4), sl4⟩)
    (c_Ruler_marks : PySem.W.codeIn K cd4 "Ruler.marks" = true)
    (kp_Ruler_marks : PySem.W.keepIn K (.ref f_Ruler_marks) = true)
    (a_law_joint : PySem.W.nsIn K mainGlobals "_law_joint" = some (some (.ref f_law_joint)))
    (l_law_joint : K.lookup f_law_joint = some ⟨oc5, od5, .func (PySem.W.fnOf "_law_joint" "_law_joint" (defArgs s_law_joint) (defBody s_law_joint) (defScope s_law_joint) .none kV5 dc5 pm5 an5 cd5 ct5), sl5⟩)
    (c_law_joint : PySem.W.codeIn K cd5 "_law_joint" = true)
    (kp_law_joint : PySem.W.keepIn K (.ref f_law_joint) = true)
    (a_law_take : PySem.W.nsIn K mainGlobals "_law_take" = some (some (.ref f_law_take)))
    (l_law_take : K.lookup f_law_take = some ⟨oc6, od6, .func (PySem.W.fnOf "_law_take" "_law_take" (defArgs s_law_take) (defBody s_law_take) (defScope s_law_take) .none kV6 dc6 pm6 an6 cd6 ct6), sl6⟩)
    (c_law_take : PySem.W.codeIn K cd6 "_law_take" = true)
    (kp_law_take : PySem.W.keepIn K (.ref f_law_take) = true)
    (a_law_marks : PySem.W.nsIn K mainGlobals "_law_marks" = some (some (.ref f_law_marks)))
    (l_law_marks : K.lookup f_law_marks = some ⟨oc7, od7, .func (PySem.W.fnOf "_law_marks" "_law_marks" (defArgs s_law_marks) (defBody s_law_marks) (defScope s_law_marks) .none kV7 dc7 pm7 an7 cd7 ct7), sl7⟩)
    (c_law_marks : PySem.W.codeIn K cd7 "_law_marks" = true)
    (kp_law_marks : PySem.W.keepIn K (.ref f_law_marks) = true)
    (a_is_number : PySem.W.nsIn K mainGlobals "is_number" = some (some (.ref f_is_number)))
    (l_is_number : K.lookup f_is_number = some ⟨oc8, od8, .func (PySem.W.fnOf "is_number" "is_number" (defArgs s_is_number) (defBody s_is_number) (defScope s_is_number) .none kV8 dc8 pm8 an8 cd8 ct8), sl8⟩)
    (c_is_number : PySem.W.codeIn K cd8 "is_number" = true)
    (kp_is_number : PySem.W.keepIn K (.ref f_is_number) = true)
    (at_Ruler_init : PySem.W.findIn K (.ref C_Ruler) "__init__" = some (some (.ref f_Ruler_init)))
    (fn_Ruler_init : PySem.W.isFn K (.ref f_Ruler_init) = true)
    (l_Ruler_init : K.lookup f_Ruler_init = some ⟨oc9, od9, .func (PySem.W.fnOf "__init__" "Ruler.__init__" (defArgs s_Ruler_init) (defBody s_Ruler_init) (defScope s_Ruler_init) .none kV9 dc9 pm9 an9 cd9 ct9), sl9⟩)
    (c_Ruler_init : PySem.W.codeIn K cd9 "Ruler.__init__" = true)
    (kp_Ruler_init : PySem.W.keepIn K (.ref f_Ruler_init) = true)
    (mki_Ruler : PySem.W.makesIn K C_Ruler = true)
    (kc_Ruler : PySem.W.keepIn K (.ref C_Ruler) = true)
    (a_law_ruler : PySem.W.nsIn K mainGlobals "_law_ruler" = some (some (.ref f_law_ruler)))
    (l_law_ruler : K.lookup f_law_ruler = some ⟨oc10, od10, .func (PySem.W.fnOf "_law_ruler" "_law_ruler" (defArgs s_law_ruler) (defBody s_law_ruler) (defScope s_law_ruler) .none kV10 dc10 pm10 an10 cd10 ct10), sl10⟩)
    (c_law_ruler : PySem.W.codeIn K cd10 "_law_ruler" = true)
    (kp_law_ruler : PySem.W.keepIn K (.ref f_law_ruler) = true)
    (a_spread_of : PySem.W.nsIn K mainGlobals "spread_of" = some (some (.ref f_spread_of)))
    (l_spread_of : K.lookup f_spread_of = some ⟨oc11, od11, .func (PySem.W.fnOf "spread_of" "spread_of" (defArgs s_spread_of) (defBody s_spread_of) (defScope s_spread_of) .none kV11 dc11 pm11 an11 cd11 ct11), sl11⟩)
    (c_spread_of : PySem.W.codeIn K cd11 "spread_of" = true)
    (kp_spread_of : PySem.W.keepIn K (.ref f_spread_of) = true)
    (a_spans_at : PySem.W.nsIn K mainGlobals "spans_at" = some (some (.ref f_spans_at)))
    (l_spans_at : K.lookup f_spans_at = some ⟨oc12, od12, .func (PySem.W.fnOf "spans_at" "spans_at" (defArgs s_spans_at) (defBody s_spans_at) (defScope s_spans_at) .none kV12 dc12 pm12 an12 cd12 ct12), sl12⟩)
    (c_spans_at : PySem.W.codeIn K cd12 "spans_at" = true)
    (kp_spans_at : PySem.W.keepIn K (.ref f_spans_at) = true)
    (a_best_shift : PySem.W.nsIn K mainGlobals "best_shift" = some (some (.ref f_best_shift)))
    (l_best_shift : K.lookup f_best_shift = some ⟨oc13, od13, .func (PySem.W.fnOf "best_shift" "best_shift" (defArgs s_best_shift) (defBody s_best_shift) (defScope s_best_shift) .none kV13 dc13 pm13 an13 cd13 ct13), sl13⟩)
    (c_best_shift : PySem.W.codeIn K cd13 "best_shift" = true)
    (kp_best_shift : PySem.W.keepIn K (.ref f_best_shift) = true)
    (a_joint_spans : PySem.W.nsIn K mainGlobals "joint_spans" = some (some (.ref f_joint_spans)))
    (l_joint_spans : K.lookup f_joint_spans = some ⟨oc14, od14, .func (PySem.W.fnOf "joint_spans" "joint_spans" (defArgs s_joint_spans) (defBody s_joint_spans) (defScope s_joint_spans) .none kV14 dc14 pm14 an14 cd14 ct14), sl14⟩)
    (c_joint_spans : PySem.W.codeIn K cd14 "joint_spans" = true)
    (kp_joint_spans : PySem.W.keepIn K (.ref f_joint_spans) = true)
    (a_law_error : PySem.W.nsIn K mainGlobals "_law_error" = some (some (.ref f_law_error)))
    (l_law_error : K.lookup f_law_error = some ⟨oc15, od15, .func (PySem.W.fnOf "_law_error" "_law_error" (defArgs s_law_error) (defBody s_law_error) (defScope s_law_error) .none kV15 dc15 pm15 an15 cd15 ct15), sl15⟩)
    (c_law_error : PySem.W.codeIn K cd15 "_law_error" = true)
    (kp_law_error : PySem.W.keepIn K (.ref f_law_error) = true)
    (a_law : PySem.W.nsIn K mainGlobals "law" = some (some (.ref f_law)))
    (l_law : K.lookup f_law = some ⟨oc16, od16, .func (PySem.W.fnOf "law" "law" (defArgs s_law) (defBody s_law) (defScope s_law) .none kV16 dc16 pm16 an16 (.ref c_law) ct16), sl16⟩)
    (cc_law : PySem.W.codeIn K (.ref c_law) "law" = true)
    (kp_law : PySem.W.keepIn K (.ref f_law) = true)
    (lc_law : K.lookup c_law = some ⟨e0, d0, .fields vs0, sl0⟩)
    (v11_law : vs0[11]? = some (.ref P_law))
    (np_law : K.lookup P_law = none)
    (ch_law : PySem.W.codeHdIn K c_law P_law = true) :
    ∃ (fd : FuncData) (c P : Addr) (e0 : Value) (d0 : Option Addr) (vs0 : Array Value) (sl0 : Array (Option Value)) (o : Obj), K.lookup fa = some o ∧ o.data = .func fd ∧ fd.code = .ref c ∧ K.lookup c = some ⟨e0, d0, .fields vs0, sl0⟩ ∧ vs0[11]? = some (.ref P) ∧ K.lookup P = none ∧ PySem.W.codeHdIn K c P = true ∧
      (∀ (s : Shared) (v : Value), BindsTo s fd ⟨[v], []⟩ [("_law_script", v)]) ∧ ∀ base : Heap, K.In base → base.Ns mainGlobals mg → LamX.TabB base mg c P → FnOk l.prog w K mg base (L2.CX l.prog w) 14 fa fd ["_law_script"] (spD K (FLawT P (("law" ++ ".<locals>." : Str) ++ "<lambda>") m_law)) := by
  have efa := hfa.symm.trans (PySem.W.mg_of X G a_law)
  cases efa
  have mg_MAX_ERROR := PySem.W.mg_of X G g_MAX_ERROR
  have mg_MAX_LENGTH := PySem.W.mg_of X G g_MAX_LENGTH
  have mg_MAX_MARKS := PySem.W.mg_of X G g_MAX_MARKS
  have mg_MIN_MARKS := PySem.W.mg_of X G g_MIN_MARKS
  have mg_MAX_SHIFT := PySem.W.mg_of X G g_MAX_SHIFT
  have mg_Ruler := PySem.W.mg_of X G g_Ruler
  have cls_Ruler : SlX.SCls K C_Ruler := ⟨pg_Ruler, ic_Ruler, po_Ruler, sa_Ruler⟩
  have isi_Ruler : SlX.SIsi K C_Ruler := ⟨ca_Ruler, cn_Ruler, ct_Ruler, cm_Ruler⟩
  have slot_Ruler_own_error : SlX.Slot1 K C_Ruler "own_error" q_Ruler_own_error 0 := ⟨sa_Ruler_own_error, sg_Ruler_own_error, sk_Ruler_own_error, sy_Ruler_own_error, sx_Ruler_own_error, by decide⟩
  have slot_Ruler_own_marks : SlX.Slot1 K C_Ruler "own_marks" q_Ruler_own_marks 1 := ⟨sa_Ruler_own_marks, sg_Ruler_own_marks, sk_Ruler_own_marks, sy_Ruler_own_marks, sx_Ruler_own_marks, by decide⟩
  have cl_Ruler : Cl_Ruler K C_Ruler := ⟨cls_Ruler, isi_Ruler, ⟨_, slot_Ruler_own_error⟩, ⟨_, slot_Ruler_own_marks⟩, kit_same (by simp), nf_Ruler⟩
  have mg_RackError := PySem.W.mg_of X G g_RackError
  have xm_RackError : mg "RackError" = some (.ref (xcx [Cx_0, Cx_1, Cx_2, Cx_3, Cx_4, Cx_5, Cx_6, Cx_7, Cx_8, Cx_9, Cx_10] 0)) := mg_RackError
  have mg_InvalidRuler := PySem.W.mg_of X G g_InvalidRuler
  have xm_InvalidRuler : mg "InvalidRuler" = some (.ref (xcx [Cx_0, Cx_1, Cx_2, Cx_3, Cx_4, Cx_5, Cx_6, Cx_7, Cx_8, Cx_9, Cx_10] 1)) := mg_InvalidRuler
  have mg_InvalidRack := PySem.W.mg_of X G g_InvalidRack
  have xm_InvalidRack : mg "InvalidRack" = some (.ref (xcx [Cx_0, Cx_1, Cx_2, Cx_3, Cx_4, Cx_5, Cx_6, Cx_7, Cx_8, Cx_9, Cx_10] 2)) := mg_InvalidRack
  have mg_UnknownName := PySem.W.mg_of X G g_UnknownName
  have xm_UnknownName : mg "UnknownName" = some (.ref (xcx [Cx_0, Cx_1, Cx_2, Cx_3, Cx_4, Cx_5, Cx_6, Cx_7, Cx_8, Cx_9, Cx_10] 3)) := mg_UnknownName
  have mg_InvalidEnd := PySem.W.mg_of X G g_InvalidEnd
  have xm_InvalidEnd : mg "InvalidEnd" = some (.ref (xcx [Cx_0, Cx_1, Cx_2, Cx_3, Cx_4, Cx_5, Cx_6, Cx_7, Cx_8, Cx_9, Cx_10] 4)) := mg_InvalidEnd
  have mg_InvalidPlace := PySem.W.mg_of X G g_InvalidPlace
  have xm_InvalidPlace : mg "InvalidPlace" = some (.ref (xcx [Cx_0, Cx_1, Cx_2, Cx_3, Cx_4, Cx_5, Cx_6, Cx_7, Cx_8, Cx_9, Cx_10] 5)) := mg_InvalidPlace
  have mg_InvalidNumber := PySem.W.mg_of X G g_InvalidNumber
  have xm_InvalidNumber : mg "InvalidNumber" = some (.ref (xcx [Cx_0, Cx_1, Cx_2, Cx_3, Cx_4, Cx_5, Cx_6, Cx_7, Cx_8, Cx_9, Cx_10] 6)) := mg_InvalidNumber
  have mg_InvalidGaps := PySem.W.mg_of X G g_InvalidGaps
  have xm_InvalidGaps : mg "InvalidGaps" = some (.ref (xcx [Cx_0, Cx_1, Cx_2, Cx_3, Cx_4, Cx_5, Cx_6, Cx_7, Cx_8, Cx_9, Cx_10] 7)) := mg_InvalidGaps
  have mg_InvalidPiece := PySem.W.mg_of X G g_InvalidPiece
  have xm_InvalidPiece : mg "InvalidPiece" = some (.ref (xcx [Cx_0, Cx_1, Cx_2, Cx_3, Cx_4, Cx_5, Cx_6, Cx_7, Cx_8, Cx_9, Cx_10] 8)) := mg_InvalidPiece
  have mg_InvalidDistances := PySem.W.mg_of X G g_InvalidDistances
  have xm_InvalidDistances : mg "InvalidDistances" = some (.ref (xcx [Cx_0, Cx_1, Cx_2, Cx_3, Cx_4, Cx_5, Cx_6, Cx_7, Cx_8, Cx_9, Cx_10] 9)) := mg_InvalidDistances
  have mg_TooMany := PySem.W.mg_of X G g_TooMany
  have xm_TooMany : mg "TooMany" = some (.ref (xcx [Cx_0, Cx_1, Cx_2, Cx_3, Cx_4, Cx_5, Cx_6, Cx_7, Cx_8, Cx_9, Cx_10] 10)) := mg_TooMany
  have xc_InvalidNumber : XC K mg "InvalidNumber" (xcx [Cx_0, Cx_1, Cx_2, Cx_3, Cx_4, Cx_5, Cx_6, Cx_7, Cx_8, Cx_9, Cx_10] 6) := ⟨xq_InvalidNumber, mg_InvalidNumber, xk_InvalidNumber, xb_InvalidNumber, xt_InvalidNumber⟩
  have ec_InvalidNumber : ExcC K (xcx [Cx_0, Cx_1, Cx_2, Cx_3, Cx_4, Cx_5, Cx_6, Cx_7, Cx_8, Cx_9, Cx_10] 6) := ⟨xg_InvalidNumber, xa_InvalidNumber, xb_InvalidNumber, xd_InvalidNumber, xl_InvalidNumber, xn_InvalidNumber, xo_InvalidNumber, xr_InvalidNumber⟩
  have kv_InvalidNumber : PySem.W.kitOne K (.ref (xcx [Cx_0, Cx_1, Cx_2, Cx_3, Cx_4, Cx_5, Cx_6, Cx_7, Cx_8, Cx_9, Cx_10] 6)) (.type "ValueError") = some true := kit_typ xv_InvalidNumber
  have em_InvalidNumber : PySem.W.exmOne K (.ref (xcx [Cx_0, Cx_1, Cx_2, Cx_3, Cx_4, Cx_5, Cx_6, Cx_7, Cx_8, Cx_9, Cx_10] 6)) (.ref (xcx [Cx_0, Cx_1, Cx_2, Cx_3, Cx_4, Cx_5, Cx_6, Cx_7, Cx_8, Cx_9, Cx_10] 0)) = some true := PySem.W.exm_ref xb_RackError xd_RackError xt_RackError xe_InvalidNumber
  have kk_InvalidNumber_InvalidDistances : PySem.W.kitOne K (.ref (xcx [Cx_0, Cx_1, Cx_2, Cx_3, Cx_4, Cx_5, Cx_6, Cx_7, Cx_8, Cx_9, Cx_10] 6)) (.ref (xcx [Cx_0, Cx_1, Cx_2, Cx_3, Cx_4, Cx_5, Cx_6, Cx_7, Cx_8, Cx_9, Cx_10] 9)) = some false := kit_ref ne_6_9 xi_InvalidDistances xt_InvalidDistances sb_6_9
  have kk_InvalidNumber_InvalidEnd : PySem.W.kitOne K (.ref (xcx [Cx_0, Cx_1, Cx_2, Cx_3, Cx_4, Cx_5, Cx_6, Cx_7, Cx_8, Cx_9, Cx_10] 6)) (.ref (xcx [Cx_0, Cx_1, Cx_2, Cx_3, Cx_4, Cx_5, Cx_6, Cx_7, Cx_8, Cx_9, Cx_10] 4)) = some false := kit_ref ne_6_4 xi_InvalidEnd xt_InvalidEnd sb_6_4
  have kk_InvalidNumber_InvalidGaps : PySem.W.kitOne K (.ref (xcx [Cx_0, Cx_1, Cx_2, Cx_3, Cx_4, Cx_5, Cx_6, Cx_7, Cx_8, Cx_9, Cx_10] 6)) (.ref (xcx [Cx_0, Cx_1, Cx_2, Cx_3, Cx_4, Cx_5, Cx_6, Cx_7, Cx_8, Cx_9, Cx_10] 7)) = some false := kit_ref ne_6_7 xi_InvalidGaps xt_InvalidGaps sb_6_7
  have kk_InvalidNumber_InvalidNumber : PySem.W.kitOne K (.ref (xcx [Cx_0, Cx_1, Cx_2, Cx_3, Cx_4, Cx_5, Cx_6, Cx_7, Cx_8, Cx_9, Cx_10] 6)) (.ref (xcx [Cx_0, Cx_1, Cx_2, Cx_3, Cx_4, Cx_5, Cx_6, Cx_7, Cx_8, Cx_9, Cx_10] 6)) = some true := kit_same (by simp)
  have kk_InvalidNumber_InvalidPiece : PySem.W.kitOne K (.ref (xcx [Cx_0, Cx_1, Cx_2, Cx_3, Cx_4, Cx_5, Cx_6, Cx_7, Cx_8, Cx_9, Cx_10] 6)) (.ref (xcx [Cx_0, Cx_1, Cx_2, Cx_3, Cx_4, Cx_5, Cx_6, Cx_7, Cx_8, Cx_9, Cx_10] 8)) = some false := kit_ref ne_6_8 xi_InvalidPiece xt_InvalidPiece sb_6_8
  have kk_InvalidNumber_InvalidPlace : PySem.W.kitOne K (.ref (xcx [Cx_0, Cx_1, Cx_2, Cx_3, Cx_4, Cx_5, Cx_6, Cx_7, Cx_8, Cx_9, Cx_10] 6)) (.ref (xcx [Cx_0, Cx_1, Cx_2, Cx_3, Cx_4, Cx_5, Cx_6, Cx_7, Cx_8, Cx_9, Cx_10] 5)) = some false := kit_ref ne_6_5 xi_InvalidPlace xt_InvalidPlace sb_6_5
  have kk_InvalidNumber_InvalidRack : PySem.W.kitOne K (.ref (xcx [Cx_0, Cx_1, Cx_2, Cx_3, Cx_4, Cx_5, Cx_6, Cx_7, Cx_8, Cx_9, Cx_10] 6)) (.ref (xcx [Cx_0, Cx_1, Cx_2, Cx_3, Cx_4, Cx_5, Cx_6, Cx_7, Cx_8, Cx_9, Cx_10] 2)) = some false := kit_ref ne_6_2 xi_InvalidRack xt_InvalidRack sb_6_2
  have kk_InvalidNumber_InvalidRuler : PySem.W.kitOne K (.ref (xcx [Cx_0, Cx_1, Cx_2, Cx_3, Cx_4, Cx_5, Cx_6, Cx_7, Cx_8, Cx_9, Cx_10] 6)) (.ref (xcx [Cx_0, Cx_1, Cx_2, Cx_3, Cx_4, Cx_5, Cx_6, Cx_7, Cx_8, Cx_9, Cx_10] 1)) = some false := kit_ref ne_6_1 xi_InvalidRuler xt_InvalidRuler sb_6_1
  have kk_InvalidNumber_TooMany : PySem.W.kitOne K (.ref (xcx [Cx_0, Cx_1, Cx_2, Cx_3, Cx_4, Cx_5, Cx_6, Cx_7, Cx_8, Cx_9, Cx_10] 6)) (.ref (xcx [Cx_0, Cx_1, Cx_2, Cx_3, Cx_4, Cx_5, Cx_6, Cx_7, Cx_8, Cx_9, Cx_10] 10)) = some false := kit_ref ne_6_10 xi_TooMany xt_TooMany sb_6_10
  have kk_InvalidNumber_UnknownName : PySem.W.kitOne K (.ref (xcx [Cx_0, Cx_1, Cx_2, Cx_3, Cx_4, Cx_5, Cx_6, Cx_7, Cx_8, Cx_9, Cx_10] 6)) (.ref (xcx [Cx_0, Cx_1, Cx_2, Cx_3, Cx_4, Cx_5, Cx_6, Cx_7, Cx_8, Cx_9, Cx_10] 3)) = some false := kit_ref ne_6_3 xi_UnknownName xt_UnknownName sb_6_3
  have xg_ValueError : mg "ValueError" = none := PySem.W.mg_none_of X G zv_VE
  have B : Bn mg := ⟨PySem.W.mg_none_of X G z_int, PySem.W.mg_none_of X G z_len, PySem.W.mg_none_of X G z_list, PySem.W.mg_none_of X G z_range, PySem.W.mg_none_of X G z_sorted, PySem.W.mg_none_of X G z_tuple, PySem.W.mg_none_of X G z_dict, PySem.W.mg_none_of X G z_isinstance, PySem.W.mg_none_of X G z_bool, PySem.W.mg_none_of X G z_str, PySem.W.mg_none_of X G z_enumerate, PySem.W.mg_none_of X G z_reversed, PySem.W.mg_none_of X G z_abs, PySem.W.mg_none_of X G z_min, PySem.W.mg_none_of X G z_max, PySem.W.mg_none_of X G z_sum, PySem.W.mg_none_of X G z_zip, PySem.W.mg_none_of X G z_set, PySem.W.mg_none_of X G z_all, PySem.W.mg_none_of X G z_divmod⟩
  have F_law_alike := fun_mk (st := s_law_alike) l_law_alike c_law_alike kp_law_alike
  have b_law_alike := F_law_alike.binds (ps := ["_law_found", "_law_due"]) fun _ _ _ _ _ _ us hl => match us, hl with | [_, _], _ => rfl
  have mg_law_alike := PySem.W.mg_of X G a_law_alike
  have F_law_begun := fun_mk (st := s_law_begun) l_law_begun c_law_begun kp_law_begun
  have b_law_begun := F_law_begun.binds (ps := ["_law_script"]) fun _ _ _ _ _ _ us hl => match us, hl with | [_], _ => rfl
  have mg_law_begun := PySem.W.mg_of X G a_law_begun
  have F_law_different := fun_mk (st := s_law_different) l_law_different c_law_different kp_law_different
  have b_law_different := F_law_different.binds (ps := ["_law_values"]) fun _ _ _ _ _ _ us hl => match us, hl with | [_], _ => rfl
  have mg_law_different := PySem.W.mg_of X G a_law_different
  have F_Ruler_marks := fun_mk (st := s_Ruler_marks) l_Ruler_marks c_Ruler_marks kp_Ruler_marks
  have b_Ruler_marks := F_Ruler_marks.binds (ps := ["self"]) fun _ _ _ _ _ _ us hl => match us, hl with | [_], _ => rfl
  have F_law_joint := fun_mk (st := s_law_joint) l_law_joint c_law_joint kp_law_joint
  have b_law_joint := F_law_joint.binds (ps := ["_law_one", "_law_other", "_law_shift"]) fun _ _ _ _ _ _ us hl => match us, hl with | [_, _, _], _ => rfl
  have mg_law_joint := PySem.W.mg_of X G a_law_joint
  have F_law_take := fun_mk (st := s_law_take) l_law_take c_law_take kp_law_take
  have b_law_take := F_law_take.binds (ps := ["_law_box", "_law_many"]) fun _ _ _ _ _ _ us hl => match us, hl with | [_, _], _ => rfl
  have mg_law_take := PySem.W.mg_of X G a_law_take
  have F_law_marks := fun_mk (st := s_law_marks) l_law_marks c_law_marks kp_law_marks
  have b_law_marks := F_law_marks.binds (ps := ["_law_box", "_law_most", "_law_length"]) fun _ _ _ _ _ _ us hl => match us, hl with | [_, _, _], _ => rfl
  have mg_law_marks := PySem.W.mg_of X G a_law_marks
  have F_is_number := fun_mk (st := s_is_number) l_is_number c_is_number kp_is_number
  have b_is_number := F_is_number.binds (ps := ["value", "lowest", "highest"]) fun _ _ _ _ _ _ us hl => match us, hl with | [_, _, _], _ => rfl
  have mg_is_number := PySem.W.mg_of X G a_is_number
  have F_Ruler_init := fun_mk (st := s_Ruler_init) l_Ruler_init c_Ruler_init kp_Ruler_init
  have b_Ruler_init := F_Ruler_init.binds (ps := ["self", "marks", "error"]) fun _ _ _ _ _ _ us hl => match us, hl with | [_, _, _], _ => rfl
  have F_law_ruler := fun_mk (st := s_law_ruler) l_law_ruler c_law_ruler kp_law_ruler
  have b_law_ruler := F_law_ruler.binds (ps := ["_law_box", "_law_most", "_law_length"]) fun _ _ _ _ _ _ us hl => match us, hl with | [_, _, _], _ => rfl
  have mg_law_ruler := PySem.W.mg_of X G a_law_ruler
  have F_spread_of := fun_mk (st := s_spread_of) l_spread_of c_spread_of kp_spread_of
  have b_spread_of := F_spread_of.binds (ps := ["marks"]) fun _ _ _ _ _ _ us hl => match us, hl with | [_], _ => rfl
  have mg_spread_of := PySem.W.mg_of X G a_spread_of
  have F_spans_at := fun_mk (st := s_spans_at) l_spans_at c_spans_at kp_spans_at
  have b_spans_at := F_spans_at.binds (ps := ["one", "other", "shift"]) fun _ _ _ _ _ _ us hl => match us, hl with | [_, _, _], _ => rfl
  have mg_spans_at := PySem.W.mg_of X G a_spans_at
  have F_best_shift := fun_mk (st := s_best_shift) l_best_shift c_best_shift kp_best_shift
  have b_best_shift := F_best_shift.binds (ps := ["one", "other", "lowest", "highest"]) fun _ _ _ _ _ _ us hl => match us, hl with | [_, _, _, _], _ => rfl
  have mg_best_shift := PySem.W.mg_of X G a_best_shift
  have F_joint_spans := fun_mk (st := s_joint_spans) l_joint_spans c_joint_spans kp_joint_spans
  have b_joint_spans := F_joint_spans.binds (ps := ["one", "other", "shift"]) fun _ _ _ _ _ _ us hl => match us, hl with | [_, _, _], _ => rfl
  have mg_joint_spans := PySem.W.mg_of X G a_joint_spans
  have F_law_error := fun_mk (st := s_law_error) l_law_error c_law_error kp_law_error
  have b_law_error := F_law_error.binds (ps := ["_law_work"]) fun _ _ _ _ _ _ us hl => match us, hl with | [_], _ => rfl
  have mg_law_error := PySem.W.mg_of X G a_law_error
  have F_law := fun_mk (st := s_law) l_law cc_law kp_law
  refine ⟨PySem.W.fnOf "law" "law" (defArgs s_law) (defBody s_law) (defScope s_law) .none kV16 dc16 pm16 an16 (.ref c_law) ct16, c_law, P_law, e0, d0, vs0, sl0, _, l_law, rfl, rfl, lc_law, v11_law, np_law, ch_law, fun s v => .of_eq rfl, fun base _ _ tb => ?_⟩
  have c_law_alike_0 : Cal l.prog w K mg base "_law_alike" 3 ["_law_found", "_law_due"] (alikeF 0) := ⟨f_law_alike, _, ok_law_alike (n := 0) (k := 2) F_law_alike B (fun h => absurd h (by decide)), mg_law_alike, kp_law_alike, b_law_alike⟩
  have c_law_alike_1 : Cal l.prog w K mg base "_law_alike" 4 ["_law_found", "_law_due"] (alikeF 1) := ⟨f_law_alike, _, ok_law_alike (n := 1) (k := 3) F_law_alike B (fun _ => c_law_alike_0), mg_law_alike, kp_law_alike, b_law_alike⟩
  have c_law_begun : Cal l.prog w K mg base "_law_begun" 3 ["_law_script"] (FBegun m_law_begun) := ⟨f_law_begun, _, ok_law_begun F_law_begun B, mg_law_begun, kp_law_begun, b_law_begun⟩
  have c_law_different : Cal l.prog w K mg base "_law_different" 3 ["_law_values"] (FM (xcx [Cx_0, Cx_1, Cx_2, Cx_3, Cx_4, Cx_5, Cx_6, Cx_7, Cx_8, Cx_9, Cx_10]) (A := List Int) (R := List Int) (fun a => [(eL eI) a]) (fun v => .fr ((eL eI) v)) (fun a => .ok (m_law_different a))) := ⟨f_law_different, _, ok_law_different F_law_different B, mg_law_different, kp_law_different, b_law_different⟩
  have p_Ruler_marks : PropD l.prog w K mg base C_Ruler "marks" 3 (FM (xcx [Cx_0, Cx_1, Cx_2, Cx_3, Cx_4, Cx_5, Cx_6, Cx_7, Cx_8, Cx_9, Cx_10]) (A := Rul) (R := List Int) (fun a => [(eRul C_Ruler) a]) (fun v => .sh ((eT eI) v)) (fun a => .ok (m_Ruler_marks a))) := ⟨p_Ruler_marks, f_Ruler_marks, _, at_Ruler_marks, sp_Ruler_marks, tk_Ruler_marks, ⟨_, rc_Ruler_marks⟩, ok_Ruler_marks F_Ruler_marks B cl_Ruler, b_Ruler_marks⟩
  have c_law_joint : Cal l.prog w K mg base "_law_joint" 6 ["_law_one", "_law_other", "_law_shift"] (FM (xcx [Cx_0, Cx_1, Cx_2, Cx_3, Cx_4, Cx_5, Cx_6, Cx_7, Cx_8, Cx_9, Cx_10]) (A := Rul × Rul × Int) (R := List Int) (fun a => [(eRul C_Ruler) a.1, (eRul C_Ruler) a.2.1, eI a.2.2]) (fun v => .fr ((eL eI) v)) (fun a => m_law_joint a.1 a.2.1 a.2.2)) := ⟨f_law_joint, _, ok_law_joint F_law_joint B c_law_different cl_Ruler p_Ruler_marks, mg_law_joint, kp_law_joint, b_law_joint⟩
  have c_law_take : Cal l.prog w K mg base "_law_take" 3 ["_law_box", "_law_many"] (FB (A := Int) (R := Int) (fun a => [eI a]) (fun v => .sh (eI v)) (fun a => m_law_take a)) := ⟨f_law_take, _, ok_law_take F_law_take B, mg_law_take, kp_law_take, b_law_take⟩
  have c_law_marks : Cal l.prog w K mg base "_law_marks" 5 ["_law_box", "_law_most", "_law_length"] (FB (A := Int × Int) (R := List Int) (fun a => [eI a.1, eI a.2]) (fun v => .sh ((eT eI) v)) (fun a => m_law_marks a.1 a.2)) := ⟨f_law_marks, _, ok_law_marks F_law_marks B c_law_take, mg_law_marks, kp_law_marks, b_law_marks⟩
  have c_is_number : Cal l.prog w K mg base "is_number" 3 ["value", "lowest", "highest"] (FM (xcx [Cx_0, Cx_1, Cx_2, Cx_3, Cx_4, Cx_5, Cx_6, Cx_7, Cx_8, Cx_9, Cx_10]) (A := Int × Int × Int) (R := Bool) (fun a => [eI a.1, eI a.2.1, eI a.2.2]) (fun v => .sh (eB v)) (fun a => .ok (m_is_number a.1 a.2.1 a.2.2))) := ⟨f_is_number, _, ok_is_number F_is_number B, mg_is_number, kp_is_number, b_is_number⟩
  have k_Ruler : MakeD l.prog w K mg base "Ruler" C_Ruler 5 ["self", "marks", "error"] (FMI (xcx [Cx_0, Cx_1, Cx_2, Cx_3, Cx_4, Cx_5, Cx_6, Cx_7, Cx_8, Cx_9, Cx_10]) (A := (List Int) × Int) (R := Rul) (fun a => [(eT eI) a.1, eI a.2]) (fun r => [.int r.error, .tup (r.marks.map D.int)]) (fun a => mk_Ruler a.1 a.2)) := ⟨f_Ruler_init, _, ⟨mki_Ruler, at_Ruler_init, fn_Ruler_init, kc_Ruler⟩, mg_Ruler, ok_Ruler_init F_Ruler_init B c_is_number cl_Ruler mg_MAX_ERROR mg_MAX_LENGTH mg_MAX_MARKS mg_MIN_MARKS, b_Ruler_init⟩
  have c_law_ruler : Cal l.prog w K mg base "_law_ruler" 8 ["_law_box", "_law_most", "_law_length"] (FB (A := Int × Int) (R := Rul) (fun a => [eI a.1, eI a.2]) (fun v => .sh ((eRul C_Ruler) v)) (fun a => m_law_ruler a.1 a.2)) := ⟨f_law_ruler, _, ok_law_ruler F_law_ruler B c_law_marks c_law_take k_Ruler, mg_law_ruler, kp_law_ruler, b_law_ruler⟩
  have c_spread_of_l : Cal l.prog w K mg base "spread_of" 3 ["marks"] (FM (xcx [Cx_0, Cx_1, Cx_2, Cx_3, Cx_4, Cx_5, Cx_6, Cx_7, Cx_8, Cx_9, Cx_10]) (A := List Int) (R := List Int) (fun a => [(eL eI) a]) (fun v => .fr ((eL eI) v)) (fun a => m_spread_of_l a)) := ⟨f_spread_of, _, ok_spread_of_l F_spread_of B, mg_spread_of, kp_spread_of, b_spread_of⟩
  have c_spans_at : Cal l.prog w K mg base "spans_at" 6 ["one", "other", "shift"] (FM (xcx [Cx_0, Cx_1, Cx_2, Cx_3, Cx_4, Cx_5, Cx_6, Cx_7, Cx_8, Cx_9, Cx_10]) (A := Rul × Rul × Int) (R := List Int) (fun a => [(eRul C_Ruler) a.1, (eRul C_Ruler) a.2.1, eI a.2.2]) (fun v => .fr ((eL eI) v)) (fun a => m_spans_at a.1 a.2.1 a.2.2)) := ⟨f_spans_at, _, ok_spans_at F_spans_at B c_spread_of_l cl_Ruler p_Ruler_marks, mg_spans_at, kp_spans_at, b_spans_at⟩
  have c_best_shift : Cal l.prog w K mg base "best_shift" 8 ["one", "other", "lowest", "highest"] (FM (xcx [Cx_0, Cx_1, Cx_2, Cx_3, Cx_4, Cx_5, Cx_6, Cx_7, Cx_8, Cx_9, Cx_10]) (A := Rul × Rul × Int × Int) (R := Int) (fun a => [(eRul C_Ruler) a.1, (eRul C_Ruler) a.2.1, eI a.2.2.1, eI a.2.2.2]) (fun v => .sh (eI v)) (fun a => m_best_shift a.1 a.2.1 a.2.2.1 a.2.2.2)) := ⟨f_best_shift, _, ok_best_shift F_best_shift B c_is_number c_spans_at mg_MAX_SHIFT xc_InvalidNumber, mg_best_shift, kp_best_shift, b_best_shift⟩
  have c_is_number_n : Cal l.prog w K mg base "is_number" 3 ["value", "lowest", "highest"] (FM (xcx [Cx_0, Cx_1, Cx_2, Cx_3, Cx_4, Cx_5, Cx_6, Cx_7, Cx_8, Cx_9, Cx_10]) (A := IB × Int × Int) (R := Bool) (fun a => [eIB a.1, eI a.2.1, eI a.2.2]) (fun v => .sh (eB v)) (fun a => .ok (m_is_number_n a.1 a.2.1 a.2.2))) := ⟨f_is_number, _, ok_is_number_n F_is_number B, mg_is_number, kp_is_number, b_is_number⟩
  have c_best_shift_n : Cal l.prog w K mg base "best_shift" 8 ["one", "other", "lowest", "highest"] (FM (xcx [Cx_0, Cx_1, Cx_2, Cx_3, Cx_4, Cx_5, Cx_6, Cx_7, Cx_8, Cx_9, Cx_10]) (A := Rul × Rul × IB × IB) (R := Int) (fun a => [(eRul C_Ruler) a.1, (eRul C_Ruler) a.2.1, eIB a.2.2.1, eIB a.2.2.2]) (fun v => .sh (eI v)) (fun a => m_best_shift_n a.1 a.2.1 a.2.2.1 a.2.2.2)) := ⟨f_best_shift, _, ok_best_shift_n F_best_shift B c_is_number_n c_spans_at mg_MAX_SHIFT xc_InvalidNumber, mg_best_shift, kp_best_shift, b_best_shift⟩
  have c_joint_spans : Cal l.prog w K mg base "joint_spans" 8 ["one", "other", "shift"] (FM (xcx [Cx_0, Cx_1, Cx_2, Cx_3, Cx_4, Cx_5, Cx_6, Cx_7, Cx_8, Cx_9, Cx_10]) (A := Rul × Rul × Int) (R := List Int) (fun a => [(eRul C_Ruler) a.1, (eRul C_Ruler) a.2.1, eI a.2.2]) (fun v => .fr ((eL eI) v)) (fun a => m_joint_spans a.1 a.2.1 a.2.2)) := ⟨f_joint_spans, _, ok_joint_spans F_joint_spans B c_is_number c_spans_at mg_MAX_SHIFT xc_InvalidNumber, mg_joint_spans, kp_joint_spans, b_joint_spans⟩
  have c_joint_spans_n : Cal l.prog w K mg base "joint_spans" 8 ["one", "other", "shift"] (FM (xcx [Cx_0, Cx_1, Cx_2, Cx_3, Cx_4, Cx_5, Cx_6, Cx_7, Cx_8, Cx_9, Cx_10]) (A := Rul × Rul × IB) (R := List Int) (fun a => [(eRul C_Ruler) a.1, (eRul C_Ruler) a.2.1, eIB a.2.2]) (fun v => .fr ((eL eI) v)) (fun a => m_joint_spans_n a.1 a.2.1 a.2.2)) := ⟨f_joint_spans, _, ok_joint_spans_n F_joint_spans B c_is_number_n c_spans_at mg_MAX_SHIFT xc_InvalidNumber, mg_joint_spans, kp_joint_spans, b_joint_spans⟩
  have l_law_error : LErr l.prog w K mg base "_law_error" (some (.str "")) (hdOf (xcx [Cx_0, Cx_1, Cx_2, Cx_3, Cx_4, Cx_5, Cx_6, Cx_7, Cx_8, Cx_9, Cx_10]) eEr hd_law_error) := ok_law_error F_law_error B mg_law_error b_law_error ec_InvalidNumber em_InvalidNumber kk_InvalidNumber_InvalidDistances kk_InvalidNumber_InvalidEnd kk_InvalidNumber_InvalidGaps kk_InvalidNumber_InvalidNumber kk_InvalidNumber_InvalidPiece kk_InvalidNumber_InvalidPlace kk_InvalidNumber_InvalidRack kk_InvalidNumber_InvalidRuler kk_InvalidNumber_TooMany kk_InvalidNumber_UnknownName kv_InvalidNumber xm_InvalidDistances xm_InvalidEnd xm_InvalidGaps xm_InvalidNumber xm_InvalidPiece xm_InvalidPlace xm_InvalidRack xm_InvalidRuler xm_RackError xm_TooMany xm_UnknownName xg_ValueError
  exact ok_law (cx := xcx [Cx_0, Cx_1, Cx_2, Cx_3, Cx_4, Cx_5, Cx_6, Cx_7, Cx_8, Cx_9, Cx_10]) F_law B c_law_alike_0 c_law_alike_1 c_law_begun c_law_joint c_law_ruler c_law_take c_best_shift c_best_shift_n c_joint_spans c_joint_spans_n l_law_error  rfl tb
end
end RB
open PySem PySem.W PyProof.Rows
set_option maxRecDepth 100000 in
set_option maxHeartbeats 0 in
theorem PySem.Challenge.cw_rulerbits_k08_whole_side_by_side_holds : PySem.Challenge.rw_rulerbits_k08_whole_side_by_side.Holds := by
  w_on; o_law; k_head; (case hw => w_witness2)
  k_fill
  refine RB.walkT (l := PySem.Challenge.rw_rulerbits_k08_whole_side_by_side) (m := RB.m_law) (k := 14) (qn := ("law" ++ ".<locals>." : Str) ++ "<lambda>") rfl rfl ⟨rfl, by decide, by decide⟩ (by first | rfl | decide) (fun w h Y => PySem.W.km_in_of Y) (fun ns hl => RB.law_true ns) ?F
  case F =>
    intro w mg fa h KX G hmg
    refine' RB.all_mk KX G hmg ?z_int ?z_len ?z_list ?z_range ?z_sorted ?z_tuple ?z_dict ?z_isinstance ?z_bool ?z_str ?z_enumerate ?z_reversed ?z_abs ?z_min ?z_max ?z_sum ?z_zip ?z_set ?z_all ?z_divmod ?g_MAX_ERROR ?g_MAX_LENGTH ?g_MAX_MARKS ?g_MIN_MARKS ?g_MAX_SHIFT ?g_Ruler ?pg_Ruler ?ic_Ruler ?po_Ruler ?sa_Ruler ?ca_Ruler ?cn_Ruler ?ct_Ruler ?cm_Ruler ?sa_Ruler_own_error ?sg_Ruler_own_error ?sk_Ruler_own_error ?sy_Ruler_own_error ?sx_Ruler_own_error ?sa_Ruler_own_marks ?sg_Ruler_own_marks ?sk_Ruler_own_marks ?sy_Ruler_own_marks ?sx_Ruler_own_marks ?nf_Ruler ?g_RackError ?xt_RackError ?xi_RackError ?xb_RackError ?g_InvalidRuler ?xt_InvalidRuler ?xi_InvalidRuler ?xb_InvalidRuler ?g_InvalidRack ?xt_InvalidRack ?xi_InvalidRack ?xb_InvalidRack ?g_UnknownName ?xt_UnknownName ?xi_UnknownName ?xb_UnknownName ?g_InvalidEnd ?xt_InvalidEnd ?xi_InvalidEnd ?xb_InvalidEnd ?g_InvalidPlace ?xt_InvalidPlace ?xi_InvalidPlace ?xb_InvalidPlace ?g_InvalidNumber ?xt_InvalidNumber ?xi_InvalidNumber ?xb_InvalidNumber ?g_InvalidGaps ?xt_InvalidGaps ?xi_InvalidGaps ?xb_InvalidGaps ?g_InvalidPiece ?xt_InvalidPiece ?xi_InvalidPiece ?xb_InvalidPiece ?g_InvalidDistances ?xt_InvalidDistances ?xi_InvalidDistances ?xb_InvalidDistances ?g_TooMany ?xt_TooMany ?xi_TooMany ?xb_TooMany ?xq_InvalidNumber ?xk_InvalidNumber ?xg_InvalidNumber ?xa_InvalidNumber ?xd_InvalidNumber ?xl_InvalidNumber ?xn_InvalidNumber ?xo_InvalidNumber ?xr_InvalidNumber ?xv_InvalidNumber ?xe_InvalidNumber ?xd_RackError ?ne_6_9 ?sb_6_9 ?ne_6_4 ?sb_6_4 ?ne_6_7 ?sb_6_7 ?ne_6_8 ?sb_6_8 ?ne_6_5 ?sb_6_5 ?ne_6_2 ?sb_6_2 ?ne_6_1 ?sb_6_1 ?ne_6_10 ?sb_6_10 ?ne_6_3 ?sb_6_3 ?zv_VE ?a_law_alike ?l_law_alike ?c_law_alike ?kp_law_alike ?a_law_begun ?l_law_begun ?c_law_begun ?kp_law_begun ?a_law_different ?l_law_different ?c_law_different ?kp_law_different ?at_Ruler_marks ?sp_Ruler_marks ?tk_Ruler_marks ?rc_Ruler_marks ?l_Ruler_marks ?c_Ruler_marks ?kp_Ruler_marks ?a_law_joint ?l_law_joint ?c_law_joint ?kp_law_joint ?a_law_take ?l_law_take ?c_law_take ?kp_law_take ?a_law_marks ?l_law_marks ?c_law_marks ?kp_law_marks ?a_is_number ?l_is_number ?c_is_number ?kp_is_number ?at_Ruler_init ?fn_Ruler_init ?l_Ruler_init ?c_Ruler_init ?kp_Ruler_init ?mki_Ruler ?kc_Ruler ?a_law_ruler ?l_law_ruler ?c_law_ruler ?kp_law_ruler ?a_spread_of ?l_spread_of ?c_spread_of ?kp_spread_of ?a_spans_at ?l_spans_at ?c_spans_at ?kp_spans_at ?a_best_shift ?l_best_shift ?c_best_shift ?kp_best_shift ?a_joint_spans ?l_joint_spans ?c_joint_spans ?kp_joint_spans ?a_law_error ?l_law_error ?c_law_error ?kp_law_error ?a_law ?l_law ?cc_law ?kp_law ?lc_law ?v11_law ?np_law ?ch_law
    (case z_int => k_is)
    (case z_len => k_is)
    (case z_list => k_is)
    (case z_range => k_is)
    (case z_sorted => k_is)
    (case z_tuple => k_is)
    (case z_dict => k_is)
    (case z_isinstance => k_is)
    (case z_bool => k_is)
    (case z_str => k_is)
    (case z_enumerate => k_is)
    (case z_reversed => k_is)
    (case z_abs => k_is)
    (case z_min => k_is)
    (case z_max => k_is)
    (case z_sum => k_is)
    (case z_zip => k_is)
    (case z_set => k_is)
    (case z_all => k_is)
    (case z_divmod => k_is)
    (case g_MAX_ERROR => k_is)
    (case g_MAX_LENGTH => k_is)
    (case g_MAX_MARKS => k_is)
    (case g_MIN_MARKS => k_is)
    (case g_MAX_SHIFT => k_is)
    (case g_Ruler => k_is)
    (case pg_Ruler => k_is)
    (case ic_Ruler => k_is)
    (case po_Ruler => k_is)
    (case sa_Ruler => k_is)
    (case ca_Ruler => k_is)
    (case cn_Ruler => k_is)
    (case ct_Ruler => k_is)
    (case cm_Ruler => k_is)
    (case sa_Ruler_own_error => k_is)
    (case sg_Ruler_own_error => k_is)
    (case sk_Ruler_own_error => k_is)
    (case sy_Ruler_own_error => k_is)
    (case sx_Ruler_own_error => k_is)
    (case sa_Ruler_own_marks => k_is)
    (case sg_Ruler_own_marks => k_is)
    (case sk_Ruler_own_marks => k_is)
    (case sy_Ruler_own_marks => k_is)
    (case sx_Ruler_own_marks => k_is)
    (case nf_Ruler => k_is)
    (case g_RackError => k_is)
    (case xt_RackError => k_is)
    (case xi_RackError => k_is)
    (case xb_RackError => k_is)
    (case g_InvalidRuler => k_is)
    (case xt_InvalidRuler => k_is)
    (case xi_InvalidRuler => k_is)
    (case xb_InvalidRuler => k_is)
    (case g_InvalidRack => k_is)
    (case xt_InvalidRack => k_is)
    (case xi_InvalidRack => k_is)
    (case xb_InvalidRack => k_is)
    (case g_UnknownName => k_is)
    (case xt_UnknownName => k_is)
    (case xi_UnknownName => k_is)
    (case xb_UnknownName => k_is)
    (case g_InvalidEnd => k_is)
    (case xt_InvalidEnd => k_is)
    (case xi_InvalidEnd => k_is)
    (case xb_InvalidEnd => k_is)
    (case g_InvalidPlace => k_is)
    (case xt_InvalidPlace => k_is)
    (case xi_InvalidPlace => k_is)
    (case xb_InvalidPlace => k_is)
    (case g_InvalidNumber => k_is)
    (case xt_InvalidNumber => k_is)
    (case xi_InvalidNumber => k_is)
    (case xb_InvalidNumber => k_is)
    (case g_InvalidGaps => k_is)
    (case xt_InvalidGaps => k_is)
    (case xi_InvalidGaps => k_is)
    (case xb_InvalidGaps => k_is)
    (case g_InvalidPiece => k_is)
    (case xt_InvalidPiece => k_is)
    (case xi_InvalidPiece => k_is)
    (case xb_InvalidPiece => k_is)
    (case g_InvalidDistances => k_is)
    (case xt_InvalidDistances => k_is)
    (case xi_InvalidDistances => k_is)
    (case xb_InvalidDistances => k_is)
    (case g_TooMany => k_is)
    (case xt_TooMany => k_is)
    (case xi_TooMany => k_is)
    (case xb_TooMany => k_is)
    (case xq_InvalidNumber => k_exc)
    (case xk_InvalidNumber => k_is)
    (case xg_InvalidNumber => k_is)
    (case xa_InvalidNumber => k_is)
    (case xd_InvalidNumber => k_is)
    (case xl_InvalidNumber => k_is)
    (case xn_InvalidNumber => k_is)
    (case xo_InvalidNumber => k_is)
    (case xr_InvalidNumber => k_is)
    (case xv_InvalidNumber => k_is)
    (case xe_InvalidNumber => k_is)
    (case xd_RackError => k_is)
    (case ne_6_9 => first | decide | rfl)
    (case sb_6_9 => k_is)
    (case ne_6_4 => first | decide | rfl)
    (case sb_6_4 => k_is)
    (case ne_6_7 => first | decide | rfl)
    (case sb_6_7 => k_is)
    (case ne_6_8 => first | decide | rfl)
    (case sb_6_8 => k_is)
    (case ne_6_5 => first | decide | rfl)
    (case sb_6_5 => k_is)
    (case ne_6_2 => first | decide | rfl)
    (case sb_6_2 => k_is)
    (case ne_6_1 => first | decide | rfl)
    (case sb_6_1 => k_is)
    (case ne_6_10 => first | decide | rfl)
    (case sb_6_10 => k_is)
    (case ne_6_3 => first | decide | rfl)
    (case sb_6_3 => k_is)
    (case zv_VE => k_is)
    (case a_law_alike => k_is)
    (case l_law_alike => k_is)
    (case c_law_alike => k_is)
    (case kp_law_alike => k_is)
    (case a_law_begun => k_is)
    (case l_law_begun => k_is)
    (case c_law_begun => k_is)
    (case kp_law_begun => k_is)
    (case a_law_different => k_is)
    (case l_law_different => k_is)
    (case c_law_different => k_is)
    (case kp_law_different => k_is)
    (case at_Ruler_marks => k_is)
    (case sp_Ruler_marks => k_is)
    (case tk_Ruler_marks => k_is)
    (case rc_Ruler_marks => k_is)
    (case l_Ruler_marks => k_is)
    (case c_Ruler_marks => k_is)
    (case kp_Ruler_marks => k_is)
    (case a_law_joint => k_is)
    (case l_law_joint => k_is)
    (case c_law_joint => k_is)
    (case kp_law_joint => k_is)
    (case a_law_take => k_is)
    (case l_law_take => k_is)
    (case c_law_take => k_is)
    (case kp_law_take => k_is)
    (case a_law_marks => k_is)
    (case l_law_marks => k_is)
    (case c_law_marks => k_is)
    (case kp_law_marks => k_is)
    (case a_is_number => k_is)
    (case l_is_number => k_is)
    (case c_is_number => k_is)
    (case kp_is_number => k_is)
    (case at_Ruler_init => k_is)
    (case fn_Ruler_init => k_is)
    (case l_Ruler_init => k_is)
    (case c_Ruler_init => k_is)
    (case kp_Ruler_init => k_is)
    (case mki_Ruler => k_is)
    (case kc_Ruler => k_is)
    (case a_law_ruler => k_is)
    (case l_law_ruler => k_is)
    (case c_law_ruler => k_is)
    (case kp_law_ruler => k_is)
    (case a_spread_of => k_is)
    (case l_spread_of => k_is)
    (case c_spread_of => k_is)
    (case kp_spread_of => k_is)
    (case a_spans_at => k_is)
    (case l_spans_at => k_is)
    (case c_spans_at => k_is)
    (case kp_spans_at => k_is)
    (case a_best_shift => k_is)
    (case l_best_shift => k_is)
    (case c_best_shift => k_is)
    (case kp_best_shift => k_is)
    (case a_joint_spans => k_is)
    (case l_joint_spans => k_is)
    (case c_joint_spans => k_is)
    (case kp_joint_spans => k_is)
    (case a_law_error => k_is)
    (case l_law_error => k_is)
    (case c_law_error => k_is)
    (case kp_law_error => k_is)
    (case a_law => k_is)
    (case l_law => k_is)
    (case cc_law => k_is)
    (case kp_law => k_is)
    (case lc_law => k_is)
    (case v11_law => rfl)
    (case np_law => first | rfl | k_is)
    (case ch_law => first | rfl | k_is)
