import PyProof.Rows.All
import Wide.All
import OpenK.AllK
import Wide.FinOn
import HandS.ForMost
import HandS.Slots
import HandS.SlotsOwn
import HandS.TupAny
import HandS.Conv
import HandS.Rev
import HandS.Zip
import HandS.SortInts
import HandS.Style
import HandS.Flow
import HandS.Deep
import HandS.Exc
import HandS.ExcOwn
import HandS.TryOnly
import HandS.WordsExc
import HandS.Lambda
import KE.KeyNested
import HandS.IsInst
import KE.GoesMore
import HandS.DictComp
import HandS.More
import KE.KRevSl
import HandS.SetFor
import HandS.Star
import PyProof.DictUpdate
import KE.KDictSum
import HandS.Text
import HandS.SortRule
import PyProof.Rows.SortKeyStr
import HandS.DictEq
import PyProof.Rows.StrMeet
import HandS.Iter
import HandS.Wide
import KE.SortData
import KE.DataMinMax
import KE.DataCmp
import PyProof.Claim2Refuses
import HandS.Strs
import HandS.ExcIs
import HandS.ExcField
import HandS.EndOwn
import KE.KExcIs
import KE.KNestM
import KE.KDflt
import KE.KDictKeyed
import HandS.TupLen
import PyProof.TupleOfStr
import HandS.Property
import HandS.ExcInit
import HandS.MakeKwOnly
import KE.KExcSuper
import KE.KExcLine
import HandS.ClsMeth
import HandS.TupMul
import PySem.Challenge.RW_rulerbits_k45_whole_drawings
set_option Elab.async false
set_option linter.all false
set_option maxRecDepth 100000
set_option maxHeartbeats 4000000
set_option autoImplicit false
namespace RB
open PySem PySem.Spec PyProof.Rows L2
inductive D where
  | non | bl (b : Bool) | int (i : Int) | str (x : Str)
  | tup (xs : List D) | lst (xs : List D)
  | dic (ks : List Key) (xs : List D)
  | ins (C : Addr) (xs : List D)
  | adr (a : Addr)
  | obj (C : Addr) (ns : List Str) (xs : List D)
  | slo (C dx : Addr) (is : List Nat) (xs : List D)
  | xdo (x : Addr) (b : Bool)
  | scr (ns : List Int)
  | tab (q : Str)
  | hob (a : Addr) (os : List (Addr × HO))
  | kd (w : World) (ks xs : List D)
mutual
def nkD : D → NestedKey
  | .int i => .num i
  | .bl b => .num (if b = true then 1 else 0)
  | .str x => .text x
  | .tup ds => .tup (nkDs ds)
  | _ => .none
def nkDs : List D → List NestedKey
  | [] => []
  | d :: ds => nkD d :: nkDs ds
end
abbrev KdE := NestedKey × Addr × V
abbrev KdR : KdE → NestedKey × Addr × Value → Prop := fun x y => y.1 = x.1 ∧ y.2.1 = x.2.1 ∧ RelV x.2.2 y.2.2
def KdAt (w : World) (h : Heap) (a : Addr) (xs : List KdE) : Prop := (a == sysModules) = false ∧ xs.length ≤ sizeLine ∧ (xs.map (·.1)).Nodup ∧
  ∃ (ys : List (NestedKey × Addr × Value)) (o : Obj) (es : Array DictEntry) (ep : Nat), Paired KdR xs ys ∧ h.get? a = some o ∧ o.ExactDict ∧ o.data = .dict es ep ∧ es.toList = ys.map fun y => (⟨y.1.hash w, .ref y.2.1, y.2.2⟩ : DictEntry)
def KdO (w : World) (a : Addr) (xs : List KdE) : HO := .ext fun h => KdAt w h a xs
/-- a slot: unknown, shared (frozen) data, an own mutable object -/
inductive Sl where
  | no | sh (d : D) | own (d : D)
/-- a result: shared data, a fresh object, the object of an own slot -/
inductive Res where
  | sh (d : D) | fr (d : D) | pk (i : Nat)
abbrev Env2 := List Sl
mutual
def Rep (K : PySem.W.Frag) (F : Hp) : D → V → Prop
  | .non, v => v = .non
  | .bl b, v => v = .bl b
  | .int i, v => v = .int i
  | .str x, v => v = .str x
  | .tup ds, v => ∃ a vs, v = .ref a ∧ SqT K F a vs ∧ RepL K F ds vs
  | .lst ds, v => ∃ a vs, v = .ref a ∧ Rd F a (.lst vs) ∧ RepL K F ds vs
  | .dic ks ds, v => ∃ a o vs, v = .ref a ∧ F a = some (.frz o (.dK (ks.zip vs))) ∧ ks.length = ds.length ∧ RepL K F ds vs
  | .ins C ds, v => ∃ a dx vs, v = .ref a ∧ SlX.Slt F a C dx (vs.map some) ∧ RepL K F ds vs
  | .adr a, v => v = .ref a
  | .obj _ _ _, _ => False
  | .slo _ _ _ _, _ => False
  | .xdo _ _, _ => False
  | .tab _, _ => False
  | .hob a os, v => v = .ref a ∧ ∀ p ∈ os, F p.1 = some p.2
  | .kd w ks ds, v => ∃ (a : Addr) (ob : Obj) (es : List KdE), v = .ref a ∧ F a = some (.frz ob (KdO w a es)) ∧ es.map (·.1) = nkDs ks ∧ RepL K F ks (es.map fun e => .ref e.2.1) ∧ RepL K F ds (es.map (·.2.2))
  | .scr ns, v => ∃ a, v = .ref a ∧ SqL K F a (ns.map V.int)
def RepL (K : PySem.W.Frag) (F : Hp) : List D → List V → Prop
  | [], vs => vs = []
  | d :: ds, vs => ∃ v r, vs = v :: r ∧ Rep K F d v ∧ RepL K F ds r
end
abbrev Ex (H H' : Hp) : Prop := ∀ a o, H a = some o → H' a = some o
theorem Ex.refl (H : Hp) : Ex H H := fun _ _ h => h
theorem Ex.trans {A B C : Hp} (x : Ex A B) (y : Ex B C) : Ex A C := fun a o h => y a o (x a o h)
theorem Ex.new {H : Hp} {p : Addr} {o : HO} (h : H p = none) : Ex H (upd H p o) := fun a u e => by
  rw [upd_ne (ne_of_none e h)]; exact e
theorem Ex.rd {F F' : Hp} (e : Ex F F') {a : Addr} {u : HO} (h : Rd F a u) : Rd F' a u := by
  rcases h with h | ⟨o, h⟩
  · exact .inl (e a _ h)
  · exact .inr ⟨o, e a _ h⟩
theorem Ex.sqL {K : PySem.W.Frag} {F F' : Hp} (e : Ex F F') {a : Addr} {xs : List V} (h : SqL K F a xs) : SqL K F' a xs := by
  rcases h with h | h
  · exact .inl (e.rd h)
  · exact .inr h
theorem Ex.sqT {K : PySem.W.Frag} {F F' : Hp} (e : Ex F F') {a : Addr} {xs : List V} (h : SqT K F a xs) : SqT K F' a xs := by
  rcases h with h | h
  · exact .inl (e.rd h)
  · exact .inr h
theorem Ex.slt {F F' : Hp} (e : Ex F F') {a C dx : Addr} {vs : List (Option V)} (h : SlX.Slt F a C dx vs) : SlX.Slt F' a C dx vs := by
  rcases h with ⟨h1, h2⟩ | ⟨h1, h2⟩
  · exact .inl ⟨e _ _ h1, h2⟩
  · exact .inr ⟨e _ _ h1, e _ _ h2⟩
mutual
theorem Rep.mono {K : PySem.W.Frag} {F F' : Hp} (e : Ex F F') : ∀ (d : D) (v : V), Rep K F d v → Rep K F' d v
  | .non, v, h => h
  | .bl b, v, h => h
  | .int i, v, h => h
  | .str x, v, h => h
  | .tup ds, v, h => by
    obtain ⟨a, vs, h1, h2, h3⟩ := h
    exact ⟨a, vs, h1, e.sqT h2, RepL.mono e ds vs h3⟩
  | .lst ds, v, h => by
    obtain ⟨a, vs, h1, h2, h3⟩ := h
    exact ⟨a, vs, h1, e.rd h2, RepL.mono e ds vs h3⟩
  | .dic ks ds, v, h => by
    obtain ⟨a, o, vs, h1, h2, h4, h3⟩ := h
    exact ⟨a, o, vs, h1, e _ _ h2, h4, RepL.mono e ds vs h3⟩
  | .ins C ds, v, h => by
    obtain ⟨a, dx, vs, h1, h2, h3⟩ := h
    exact ⟨a, dx, vs, h1, e.slt h2, RepL.mono e ds vs h3⟩
  | .adr a, v, h => h
  | .obj _ _ _, v, h => h
  | .slo _ _ _ _, v, h => h
  | .xdo _ _, v, h => h
  | .tab _, v, h => h
  | .hob a os, v, h => ⟨h.1, fun p hp => e _ _ (h.2 p hp)⟩
  | .kd w ks ds, v, h => by
    obtain ⟨a, ob, es, h1, h2, h3, h4, h5⟩ := h
    exact ⟨a, ob, es, h1, e _ _ h2, h3, RepL.mono e ks _ h4, RepL.mono e ds _ h5⟩
  | .scr ns, v, h => by
    obtain ⟨a, h1, h2⟩ := h
    exact ⟨a, h1, e.sqL h2⟩
theorem RepL.mono {K : PySem.W.Frag} {F F' : Hp} (e : Ex F F') : ∀ (ds : List D) (vs : List V), RepL K F ds vs → RepL K F' ds vs
  | [], vs, h => h
  | d :: ds, vs, h => by
    obtain ⟨v, r, h1, h2, h3⟩ := h
    exact ⟨v, r, h1, Rep.mono e d v h2, RepL.mono e ds r h3⟩
end
section
variable {K : PySem.W.Frag} {F : Hp}
theorem RepL.length : ∀ {ds : List D} {vs : List V}, RepL K F ds vs → vs.length = ds.length
  | [], vs, h => by cases (show vs = [] from h); rfl
  | d :: ds, vs, h => by
    obtain ⟨v, r, rfl, _, h3⟩ := h
    rw [List.length_cons, List.length_cons, RepL.length h3]
theorem RepL.get : ∀ {ds : List D} {vs : List V} {i : Nat} {d : D}, RepL K F ds vs → ds[i]? = some d → ∃ v, vs[i]? = some v ∧ Rep K F d v
  | [], vs, i, d, h, e => by simp at e
  | d0 :: ds, vs, 0, d, h, e => by
    obtain ⟨v, r, rfl, h2, _⟩ := h
    have : d0 = d := by simpa using e
    subst this
    exact ⟨v, rfl, h2⟩
  | d0 :: ds, vs, i + 1, d, h, e => by
    obtain ⟨v, r, rfl, _, h3⟩ := h
    obtain ⟨u, h1, h2⟩ := RepL.get (i := i) h3 (by simpa using e)
    exact ⟨u, by simpa using h1, h2⟩
theorem RepL.append : ∀ {ds es : List D} {vs us : List V}, RepL K F ds vs → RepL K F es us → RepL K F (ds ++ es) (vs ++ us)
  | [], es, vs, us, h, g => by cases (show vs = [] from h); exact g
  | d :: ds, es, vs, us, h, g => by
    obtain ⟨v, r, rfl, h2, h3⟩ := h
    exact ⟨v, r ++ us, rfl, h2, RepL.append h3 g⟩
theorem RepL.one {d : D} {v : V} (h : Rep K F d v) : RepL K F [d] [v] := ⟨v, [], rfl, h, rfl⟩
theorem RepL.drop : ∀ (n : Nat) {ds : List D} {vs : List V}, RepL K F ds vs → RepL K F (ds.drop n) (vs.drop n)
  | 0, _, _, h => h
  | n + 1, [], vs, h => by cases (show vs = [] from h); exact rfl
  | n + 1, d :: ds, vs, h => by
    obtain ⟨v, r, rfl, h2, h3⟩ := h
    exact RepL.drop n h3
theorem RepL.take : ∀ (n : Nat) {ds : List D} {vs : List V}, RepL K F ds vs → RepL K F (ds.take n) (vs.take n)
  | 0, _, _, h => rfl
  | n + 1, [], vs, h => by cases (show vs = [] from h); exact rfl
  | n + 1, d :: ds, vs, h => by
    obtain ⟨v, r, rfl, h2, h3⟩ := h
    exact ⟨v, r.take n, rfl, h2, RepL.take n h3⟩
theorem RepL.set : ∀ (i : Nat) {ds : List D} {vs : List V} {d : D} {v : V}, RepL K F ds vs → Rep K F d v → RepL K F (ds.set i d) (vs.set i v)
  | i, [], vs, d, v, h, g => by cases (show vs = [] from h); exact rfl
  | 0, d0 :: ds, vs, d, v, h, g => by
    obtain ⟨u, r, rfl, _, h3⟩ := h
    exact ⟨v, r, rfl, g, h3⟩
  | i + 1, d0 :: ds, vs, d, v, h, g => by
    obtain ⟨u, r, rfl, h2, h3⟩ := h
    exact ⟨u, r.set i v, rfl, h2, RepL.set i h3 g⟩
/-- lists of ints -/
theorem RepL.ints : ∀ {ns : List Int} {vs : List V}, RepL K F (ns.map D.int) vs → vs = ns.map V.int
  | [], vs, h => h
  | n :: ns, vs, h => by
    obtain ⟨v, r, rfl, h2, h3⟩ := h
    cases (show v = .int n from h2)
    rw [RepL.ints h3]; rfl
theorem RepL.of_ints : ∀ (ns : List Int), RepL K F (ns.map D.int) (ns.map V.int)
  | [] => rfl
  | n :: ns => ⟨_, _, rfl, rfl, RepL.of_ints ns⟩
theorem RepL.strs : ∀ {ns : List Str} {vs : List V}, RepL K F (ns.map D.str) vs → vs = ns.map V.str
  | [], vs, h => h
  | n :: ns, vs, h => by
    obtain ⟨v, r, rfl, h2, h3⟩ := h
    cases (show v = .str n from h2)
    rw [RepL.strs h3]; rfl
end
/-- what is not frozen as it stands -/
def isDic : D → Bool
  | .lst _ => false
  | .tup _ => false
  | .int _ => false
  | .bl _ => false
  | .str _ => false
  | .non => false
  | .ins _ _ => false
  | .adr _ => false
  | _ => true
/-- the object at p, its parts frozen -/
def Own (K : PySem.W.Frag) (F H : Hp) (p : Addr) : D → Prop
  | .lst ds => ∃ vs, H p = some (.lst vs) ∧ RepL K F ds vs
  | .dic ks ds => ∃ vs, H p = some (.dK (ks.zip vs)) ∧ ks.length = ds.length ∧ RepL K F ds vs
  | .obj C ns ds => ∃ dx vs, H p = some (.ins C dx (ns.zip vs)) ∧ ns.length = ds.length ∧ RepL K F ds vs
  | .slo C dx is ds => (is = [] ∧ ds = [] ∧ H p = some (.ins C dx [])) ∨ ∃ us vs, H p = some (SlX.SlO p C dx us) ∧ is.length = ds.length ∧ RepL K F ds vs ∧ ∀ (j : Nat) (i : Nat) (v : V), is[j]? = some i → vs[j]? = some v → us[i]? = some (some v)
  | .xdo x b => H p = some (if b then .xd [] else .own x)
  | .tab q => ∃ ps : Array Value, H p = some (.tbl ps) ∧ TriplesOk ps.toList ∧ ∀ (pos : Pos) (cv : Value), codeAmong pos ps.toList = some cv → ∃ c, cv = .ref c ∧ F c = some (LamX.CodeO c q)
  | .kd w ks ds => ∃ es : List KdE, H p = some (KdO w p es) ∧ es.map (·.1) = nkDs ks ∧ RepL K F ks (es.map fun e => .ref e.2.1) ∧ RepL K F ds (es.map (·.2.2))
  | _ => False
theorem Own.mono {K : PySem.W.Frag} {F F' H H' : Hp} {p : Addr} {d : D} (e : Ex F F') (k : ∀ o, H p = some o → H' p = some o) (h : Own K F H p d) : Own K F' H' p d := by
  cases d with
  | lst ds => obtain ⟨vs, h1, h2⟩ := h; exact ⟨vs, k _ h1, RepL.mono e _ _ h2⟩
  | dic ks ds => obtain ⟨vs, h1, h3, h2⟩ := h; exact ⟨vs, k _ h1, h3, RepL.mono e _ _ h2⟩
  | obj C ns ds => obtain ⟨dx, vs, h1, h3, h2⟩ := h; exact ⟨dx, vs, k _ h1, h3, RepL.mono e _ _ h2⟩
  | slo C dx is ds =>
    rcases h with ⟨h1, h2, h3⟩ | ⟨us, vs, h1, h2, h3, h4⟩
    · exact .inl ⟨h1, h2, k _ h3⟩
    · exact .inr ⟨us, vs, k _ h1, h2, RepL.mono e _ _ h3, h4⟩
  | xdo x b => exact k _ h
  | kd w ks ds => obtain ⟨es, h1, h2, h3, h4⟩ := h; exact ⟨es, k _ h1, h2, RepL.mono e _ _ h3, RepL.mono e _ _ h4⟩
  | tab q => obtain ⟨ps, h1, h2, h3⟩ := h; exact ⟨ps, k _ h1, h2, fun pos cv hc => let ⟨c, e1, e2⟩ := h3 pos cv hc; ⟨c, e1, e _ _ e2⟩⟩
  | _ => exact h.elim
theorem Own.there {K : PySem.W.Frag} {F H : Hp} {p : Addr} {d : D} (h : Own K F H p d) : ∃ o, H p = some o := by
  cases d with
  | lst ds => obtain ⟨vs, h1, h2⟩ := h; exact ⟨_, h1⟩
  | dic ks ds => obtain ⟨vs, h1, h3, h2⟩ := h; exact ⟨_, h1⟩
  | obj C ns ds => obtain ⟨dx, vs, h1, h3, h2⟩ := h; exact ⟨_, h1⟩
  | slo C dx is ds =>
    rcases h with ⟨h1, h2, h3⟩ | ⟨us, vs, h1, h2, h3, h4⟩
    · exact ⟨_, h3⟩
    · exact ⟨_, h1⟩
  | xdo x b => exact ⟨_, h⟩
  | tab q => obtain ⟨ps, h1, _⟩ := h; exact ⟨_, h1⟩
  | kd w ks ds => obtain ⟨es, h1, _⟩ := h; exact ⟨_, h1⟩
  | _ => exact h.elim
/-- a view: frozen, or an object whose parts are -/
def Vw (K : PySem.W.Frag) (F H : Hp) (d : D) (v : V) : Prop := Rep K F d v ∨ ∃ p, v = .ref p ∧ Own K F H p d
theorem Vw.lst {K : PySem.W.Frag} {F H : Hp} (e : Ex F H) {ds : List D} {v : V} (h : Vw K F H (.lst ds) v) : ∃ a vs, v = .ref a ∧ Rd H a (.lst vs) ∧ RepL K F ds vs := by
  rcases h with ⟨a, vs, h1, h2, h3⟩ | ⟨p, h1, vs, h2, h3⟩
  · exact ⟨a, vs, h1, e.rd h2, h3⟩
  · exact ⟨p, vs, h1, .inl h2, h3⟩
theorem Vw.tup {K : PySem.W.Frag} {F H : Hp} (e : Ex F H) {ds : List D} {v : V} (h : Vw K F H (.tup ds) v) : ∃ a vs, v = .ref a ∧ SqT K H a vs ∧ RepL K F ds vs := by
  rcases h with ⟨a, vs, h1, h2, h3⟩ | ⟨p, h1, h2⟩
  · exact ⟨a, vs, h1, e.sqT h2, h3⟩
  · exact h2.elim
theorem Vw.dic {K : PySem.W.Frag} {F H : Hp} (e : Ex F H) {ks : List Key} {ds : List D} {v : V} (h : Vw K F H (.dic ks ds) v) : ∃ a vs, v = .ref a ∧ Rd H a (.dK (ks.zip vs)) ∧ ks.length = ds.length ∧ RepL K F ds vs := by
  rcases h with ⟨a, o, vs, h1, h2, h4, h3⟩ | ⟨p, h1, vs, h2, h4, h3⟩
  · exact ⟨a, vs, h1, .inr ⟨o, e _ _ h2⟩, h4, h3⟩
  · exact ⟨p, vs, h1, .inl h2, h4, h3⟩
theorem Vw.int {K : PySem.W.Frag} {F H : Hp} {i : Int} {v : V} (h : Vw K F H (.int i) v) : v = .int i := by
  rcases h with h | ⟨p, h1, h2⟩
  · exact h
  · exact h2.elim
theorem Vw.bl {K : PySem.W.Frag} {F H : Hp} {i : Bool} {v : V} (h : Vw K F H (.bl i) v) : v = .bl i := by
  rcases h with h | ⟨p, h1, h2⟩
  · exact h
  · exact h2.elim
theorem Vw.str {K : PySem.W.Frag} {F H : Hp} {i : Str} {v : V} (h : Vw K F H (.str i) v) : v = .str i := by
  rcases h with h | ⟨p, h1, h2⟩
  · exact h
  · exact h2.elim
theorem Vw.non {K : PySem.W.Frag} {F H : Hp} {v : V} (h : Vw K F H .non v) : v = .non := by
  rcases h with h | ⟨p, h1, h2⟩
  · exact h
  · exact h2.elim
theorem Vw.ins {K : PySem.W.Frag} {F H : Hp} (e : Ex F H) {C : Addr} {ds : List D} {v : V} (h : Vw K F H (.ins C ds) v) : ∃ a dx vs, v = .ref a ∧ SlX.Slt H a C dx (vs.map some) ∧ RepL K F ds vs := by
  rcases h with ⟨a, dx, vs, h1, h2, h3⟩ | ⟨p, h1, h2⟩
  · exact ⟨a, dx, vs, h1, e.slt h2, h3⟩
  · exact h2.elim
/-- the open region: objects that are known by their address, as data -/
abbrev GD := Addr → Option D
def updG (G : GD) (a : Addr) (d : D) : GD := fun b => if b = a then some d else G b
theorem updG_same {G : GD} {a : Addr} {d : D} : updG G a d a = some d := by unfold updG; rw [if_pos rfl]
theorem updG_ne {G : GD} {a b : Addr} {d : D} (h : b ≠ a) : updG G a d b = G b := by unfold updG; rw [if_neg h]
/-- F0: what was frozen at the entry; T: what others hold; F: frozen; G: the open region; H: all -/
structure Bas (K : PySem.W.Frag) (F0 T F : Hp) (G : GD) (H : Hp) : Prop where
  ff : Ex F0 F
  ft : ∀ a o, F a = some o → F0 a = some o ∨ T a = none
  fh : Ex F H
  gh : ∀ a d, G a = some d → Own K F H a d
  fg : ∀ a o, G a = some o → F a = none
  gt : ∀ a o, G a = some o → T a = none
  tk : Ex T H
def SlotOk (K : PySem.W.Frag) (T F : Hp) (G : GD) (H : Hp) : Sl → Option (Option V) → Prop
  | .no, _ => True
  | .sh d, x => ∃ v, x = some (some v) ∧ Rep K F d v
  | .own d, x => ∃ p, x = some (some (.ref p)) ∧ Own K F H p d ∧ F p = none ∧ G p = none ∧ T p = none
structure Sta (K : PySem.W.Frag) (F0 T F : Hp) (G : GD) (H : Hp) (r : Env2) (σ : L2.St) : Prop where
  bas : Bas K F0 T F G H
  len : r.length = σ.length
  sl : ∀ (i : Nat) (s : Sl), r[i]? = some s → SlotOk K T F G H s σ[i]?
  ap : ∀ (i j : Nat) (d e : D), i ≠ j → r[i]? = some (.own d) → r[j]? = some (.own e) → σ[i]? ≠ σ[j]?
def ResOk (K : PySem.W.Frag) (T F : Hp) (G : GD) (H : Hp) (r : Env2) (σ : L2.St) : Res → V → Prop
  | .sh d, v => Rep K F d v
  | .fr d, v => ∃ p, v = .ref p ∧ Own K F H p d ∧ F p = none ∧ G p = none ∧ T p = none ∧ ∀ (i : Nat) (e : D), r[i]? = some (.own e) → σ[i]? ≠ some (some (.ref p))
  | .pk i, v => σ[i]? = some (some v) ∧ ∃ d, r[i]? = some (.own d)
/-- the view of a result -/
def vw (r : Env2) : Res → Option D
  | .sh d => some d
  | .fr d => if isDic d then none else some d
  | .pk i => match r[i]? with
    | some (.own d) => some d
    | some (.sh d) => some d
    | _ => none
/-- the view of a result, or of an object of the open region -/
def VwR (r : Env2) (G : GD) (x : Res) (d : D) : Prop := vw r x = some d ∨ ∃ a, x = .sh (.adr a) ∧ G a = some d
def RtOk (K : PySem.W.Frag) (T F : Hp) (G : GD) (H : Hp) : Res → V → Prop
  | .sh d, v => Rep K F d v
  | .fr d, v => ∃ p, v = .ref p ∧ Own K F H p d ∧ F p = none ∧ G p = none ∧ T p = none
  | .pk _, _ => False
section
variable {K : PySem.W.Frag} {F0 T F : Hp} {G : GD} {H : Hp} {r : Env2} {σ : L2.St}
theorem Sta.slot (S : Sta K F0 T F G H r σ) {i : Nat} {d : D} (h : r[i]? = some (.sh d)) : ∃ v, σ[i]? = some (some v) ∧ Rep K F d v := S.sl i _ h
theorem Sta.ownS (S : Sta K F0 T F G H r σ) {i : Nat} {d : D} (h : r[i]? = some (.own d)) : ∃ p, σ[i]? = some (some (.ref p)) ∧ Own K F H p d ∧ F p = none ∧ G p = none ∧ T p = none := S.sl i _ h
theorem Bas.gh' (B : Bas K F0 T F G H) {a : Addr} {d : D} (h : G a = some d) : ∃ o, H a = some o := (B.gh a d h).there
theorem Bas.freshF (B : Bas K F0 T F G H) {p : Addr} (hp : H p = none) : F p = none ∧ G p = none ∧ T p = none := by
  refine ⟨?_, ?_, ?_⟩
  · cases e : F p with
    | none => rfl
    | some u => rw [B.fh p u e] at hp; cases hp
  · cases e : G p with
    | none => rfl
    | some u => obtain ⟨o, ho⟩ := B.gh' e; rw [ho] at hp; cases hp
  · cases e : T p with
    | none => rfl
    | some u => rw [B.tk p u e] at hp; cases hp
/-- the open objects, while F and H grow -/
theorem Bas.gmono (B : Bas K F0 T F G H) {F' H' : Hp} (ef : Ex F F') (eh : ∀ a o, G a ≠ none → H a = some o → H' a = some o) : ∀ a d, G a = some d → Own K F' H' a d := fun a d h =>
  (B.gh a d h).mono ef fun o ho => eh a o (by rw [h]; exact fun z => nomatch z) ho
/-- the frozen part grows by a new object, others keep -/
theorem Bas.newF (B : Bas K F0 T F G H) {p : Addr} {o : HO} (hp : H p = none) : Bas K F0 T (upd F p o) G (upd H p o) := by
  obtain ⟨fp, gp, tp⟩ := B.freshF hp
  refine ⟨B.ff.trans (Ex.new fp), fun a o' e => ?_, fun a o' e => ?_, B.gmono (Ex.new fp) fun a u _ h => Ex.new hp a u h, fun a o' e => ?_, B.gt, B.tk.trans (Ex.new hp)⟩
  · by_cases h : a = p
    · subst h; exact .inr tp
    · rw [upd_ne h] at e; exact B.ft a o' e
  · by_cases h : a = p
    · subst h; rw [upd_same] at e ⊢; exact e
    · rw [upd_ne h] at e ⊢; exact B.fh a o' e
  · by_cases h : a = p
    · subst h; rw [gp] at e; cases e
    · rw [upd_ne h]; exact B.fg a o' e
/-- a new object that is not frozen -/
theorem Bas.newH (B : Bas K F0 T F G H) {p : Addr} {o : HO} (hp : H p = none) : Bas K F0 T F G (upd H p o) :=
  ⟨B.ff, B.ft, B.fh.trans (Ex.new hp), B.gmono (Ex.refl _) fun a u _ h => Ex.new hp a u h, B.fg, B.gt, B.tk.trans (Ex.new hp)⟩
/-- an object that nobody else knows is written -/
theorem Bas.put (B : Bas K F0 T F G H) {p : Addr} {o : HO} (h1 : F p = none) (h2 : G p = none) (h3 : T p = none) : Bas K F0 T F G (upd H p o) := by
  refine ⟨B.ff, B.ft, fun a u e => ?_, B.gmono (Ex.refl _) fun a u hg e => ?_, B.fg, B.gt, fun a u e => ?_⟩
  · rw [upd_ne (ne_of_none e h1)]; exact B.fh a u e
  · rw [upd_ne (fun z => hg (by rw [z]; exact h2))]; exact e
  · rw [upd_ne (ne_of_none e h3)]; exact B.tk a u e
theorem Bas.frz (B : Bas K F0 T F G H) {p : Addr} {o : HO} (ho : H p = some o) (h1 : F p = none) (h2 : G p = none) (h3 : T p = none) : Bas K F0 T (upd F p o) G H := by
  refine ⟨B.ff.trans (Ex.new h1), fun a u e => ?_, fun a u e => ?_, B.gmono (Ex.new h1) fun _ _ _ h => h, fun a u e => ?_, B.gt, B.tk⟩
  · by_cases h : a = p
    · subst h; exact .inr h3
    · rw [upd_ne h] at e; exact B.ft a u e
  · by_cases h : a = p
    · subst h; rw [upd_same] at e; cases e; exact ho
    · rw [upd_ne h] at e; exact B.fh a u e
  · by_cases h : a = p
    · subst h; rw [h2] at e; cases e
    · rw [upd_ne h]; exact B.fg a u e
/-- the slots stand when F, H grow and the own objects keep -/
theorem Sta.grow {F' : Hp} {G' : GD} {H' : Hp} {F0' T' : Hp} (S : Sta K F0 T F G H r σ) (B : Bas K F0' T' F' G' H') (ef : Ex F F')
    (ko : ∀ p, F p = none → G p = none → T p = none → (∃ o, H p = some o) → (∀ o, H p = some o → H' p = some o) ∧ F' p = none ∧ G' p = none ∧ T' p = none) : Sta K F0' T' F' G' H' r σ := by
  refine ⟨B, S.len, fun i s e => ?_, S.ap⟩
  have h := S.sl i s e
  cases s with
  | no => trivial
  | sh d => obtain ⟨v, h1, h2⟩ := h; exact ⟨v, h1, Rep.mono ef _ _ h2⟩
  | own d =>
    obtain ⟨p, h1, h2, h3, h4, h5⟩ := h
    obtain ⟨k1, k2, k3, k4⟩ := ko p h3 h4 h5 h2.there
    exact ⟨p, h1, h2.mono ef k1, k2, k3, k4⟩
theorem Sta.newF (S : Sta K F0 T F G H r σ) {p : Addr} {o : HO} (hp : H p = none) : Sta K F0 T (upd F p o) G (upd H p o) r σ := by
  refine S.grow (S.bas.newF hp) (Ex.new (S.bas.freshF hp).1) fun q h1 h2 h3 ⟨u, hu⟩ => ?_
  have hq : q ≠ p := fun z => by subst z; rw [hp] at hu; cases hu
  exact ⟨fun o' e => by rw [upd_ne hq]; exact e, by rw [upd_ne hq]; exact h1, h2, h3⟩
theorem Sta.newH (S : Sta K F0 T F G H r σ) {p : Addr} {o : HO} (hp : H p = none) : Sta K F0 T F G (upd H p o) r σ := by
  refine S.grow (S.bas.newH hp) (Ex.refl _) fun q h1 h2 h3 ⟨u, hu⟩ => ?_
  have hq : q ≠ p := fun z => by subst z; rw [hp] at hu; cases hu
  exact ⟨fun o' e => by rw [upd_ne hq]; exact e, h1, h2, h3⟩
theorem Sta.freshR (S : Sta K F0 T F G H r σ) {p : Addr} (hp : H p = none) : ∀ (i : Nat) (e : D), r[i]? = some (.own e) → σ[i]? ≠ some (some (.ref p)) := fun i e he z => by
  obtain ⟨q, h1, h2, _⟩ := S.ownS he
  rw [z] at h1
  cases h1
  obtain ⟨o, ho⟩ := h2.there
  rw [hp] at ho; cases ho
/-- a slot is stored -/
theorem Sta.set (S : Sta K F0 T F G H r σ) {i : Nat} {s : Sl} {v : V} (hi : i < r.length) (h : SlotOk K T F G H s (some (some v))) (ha : ∀ d, s = .own d → ∀ (j : Nat) (e : D), r[j]? = some (.own e) → j ≠ i → σ[j]? ≠ some (some v)) : Sta K F0 T F G H (r.set i s) (σ.set i (some v)) := by
  have hiσ : i < σ.length := by rw [← S.len]; exact hi
  refine ⟨S.bas, by rw [List.length_set, List.length_set]; exact S.len, fun j s' e => ?_, fun j k d e hjk ej ek => ?_⟩
  · by_cases hj : i = j
    · subst hj
      rw [List.getElem?_set_self hi] at e
      cases e
      rw [List.getElem?_set_self hiσ]
      exact h
    · rw [List.getElem?_set_ne hj] at e ⊢
      exact S.sl j s' e
  · by_cases hj : i = j
    · subst hj
      rw [List.getElem?_set_self hi] at ej
      cases ej
      rw [List.getElem?_set_ne hjk] at ek
      rw [List.getElem?_set_self hiσ, List.getElem?_set_ne hjk]
      exact fun z => ha d rfl k e ek (Ne.symm hjk) z.symm
    · rw [List.getElem?_set_ne hj] at ej
      by_cases hk : i = k
      · subst hk
        rw [List.getElem?_set_self hi] at ek
        cases ek
        rw [List.getElem?_set_self hiσ, List.getElem?_set_ne hj]
        exact ha e rfl j d ej hjk
      · rw [List.getElem?_set_ne hk] at ek
        rw [List.getElem?_set_ne hj, List.getElem?_set_ne hk]
        exact S.ap j k d e hjk ej ek
/-- knowledge about slots is forgotten -/
inductive Wk : Env2 → Env2 → Prop
  | nil : Wk [] []
  | no {s : Sl} {a b : Env2} (h : Wk a b) : Wk (s :: a) (.no :: b)
  | eq {s : Sl} {a b : Env2} (h : Wk a b) : Wk (s :: a) (s :: b)
theorem Wk.get {a b : Env2} (w : Wk a b) : ∀ (i : Nat) (s : Sl), b[i]? = some s → s = .no ∨ a[i]? = some s := by
  induction w with
  | nil => intro i s h; simp at h
  | no _ ih =>
    intro i s h
    cases i with
    | zero => left; simpa using h.symm
    | succ i => simpa using ih i s (by simpa using h)
  | eq _ ih =>
    intro i s h
    cases i with
    | zero => right; simpa using h
    | succ i => simpa using ih i s (by simpa using h)
theorem Wk.len {a b : Env2} (w : Wk a b) : b.length = a.length := by
  induction w with
  | nil => rfl
  | no _ ih => simp [ih]
  | eq _ ih => simp [ih]
theorem Wk.refl : ∀ (a : Env2), Wk a a
  | [] => .nil
  | _ :: a => .eq (Wk.refl a)
theorem Sta.weak {r' : Env2} (S : Sta K F0 T F G H r σ) (w : Wk r r') : Sta K F0 T F G H r' σ := by
  refine ⟨S.bas, by rw [w.len]; exact S.len, fun i s e => ?_, fun i j d e hij ei ej => ?_⟩
  · rcases w.get i s e with z | z
    · subst z; trivial
    · exact S.sl i s z
  · rcases w.get i _ ei with z | z
    · cases z
    · rcases w.get j _ ej with y | y
      · cases y
      · exact S.ap i j d e hij z y
/-- an own slot is frozen -/
theorem Sta.frzSlot (S : Sta K F0 T F G H r σ) {i : Nat} {d : D} (hD : isDic d = false) (h : r[i]? = some (.own d)) : ∃ F', Ex F F' ∧ Sta K F0 T F' G H (r.set i (.sh d)) σ ∧ ∃ v, σ[i]? = some (some v) ∧ Rep K F' d v := by
  obtain ⟨p, h1, h2, h3, h4, h5⟩ := S.ownS h
  obtain ⟨o, ho⟩ := h2.there
  have hi : i < r.length := (List.getElem?_eq_some_iff.mp h).1
  have ef : Ex F (upd F p o) := Ex.new h3
  have rp : Rep K (upd F p o) d (.ref p) := by
    cases d with
    | lst ds =>
      obtain ⟨vs, q1, q2⟩ := h2
      rw [ho] at q1; cases q1
      exact ⟨p, vs, rfl, .inl upd_same, RepL.mono ef _ _ q2⟩
    | dic ks ds => cases hD
    | obj C ns ds => cases hD
    | slo C dx is ds => cases hD
    | xdo x b => cases hD
    | tab q => cases hD
    | kd w ks ds => cases hD
    | _ => exact h2.elim
  refine ⟨upd F p o, ef, ⟨S.bas.frz ho h3 h4 h5, by rw [List.length_set]; exact S.len, fun j s e => ?_, fun j k d' e' hjk ej ek => ?_⟩, .ref p, h1, rp⟩
  · by_cases hj : i = j
    · subst hj
      rw [List.getElem?_set_self hi] at e
      cases e
      exact ⟨_, h1, rp⟩
    · rw [List.getElem?_set_ne hj] at e
      have q := S.sl j s e
      cases s with
      | no => trivial
      | sh d' => obtain ⟨v, q1, q2⟩ := q; exact ⟨v, q1, Rep.mono ef _ _ q2⟩
      | own d' =>
        obtain ⟨p', q1, q2, q3, q4, q5⟩ := q
        have hpp : p' ≠ p := fun z => by
          subst z
          exact S.ap i j d d' hj h e (h1.trans q1.symm)
        exact ⟨p', q1, q2.mono ef fun _ z => z, by rw [upd_ne hpp]; exact q3, q4, q5⟩
  · have hj : i ≠ j := fun z => by
      subst z
      rw [List.getElem?_set_self hi] at ej; cases ej
    have hk : i ≠ k := fun z => by
      subst z
      rw [List.getElem?_set_self hi] at ek; cases ek
    rw [List.getElem?_set_ne hj] at ej
    rw [List.getElem?_set_ne hk] at ek
    exact S.ap j k d' e' hjk ej ek
/-- a fresh result is frozen -/
theorem Sta.frzRes (S : Sta K F0 T F G H r σ) {d : D} {v : V} (hD : isDic d = false) (h : ResOk K T F G H r σ (.fr d) v) : ∃ F', Ex F F' ∧ Sta K F0 T F' G H r σ ∧ Rep K F' d v := by
  obtain ⟨p, rfl, h2, h3, h4, h5, h6⟩ := h
  obtain ⟨o, ho⟩ := h2.there
  have ef : Ex F (upd F p o) := Ex.new h3
  have rp : Rep K (upd F p o) d (.ref p) := by
    cases d with
    | lst ds =>
      obtain ⟨vs, q1, q2⟩ := h2
      rw [ho] at q1; cases q1
      exact ⟨p, vs, rfl, .inl upd_same, RepL.mono ef _ _ q2⟩
    | dic ks ds => cases hD
    | obj C ns ds => cases hD
    | slo C dx is ds => cases hD
    | xdo x b => cases hD
    | tab q => cases hD
    | kd w ks ds => cases hD
    | _ => exact h2.elim
  refine ⟨upd F p o, ef, ⟨S.bas.frz ho h3 h4 h5, S.len, fun j s e => ?_, S.ap⟩, rp⟩
  have q := S.sl j s e
  cases s with
  | no => trivial
  | sh d' => obtain ⟨v, q1, q2⟩ := q; exact ⟨v, q1, Rep.mono ef _ _ q2⟩
  | own d' =>
    obtain ⟨p', q1, q2, q3, q4, q5⟩ := q
    have hpp : p' ≠ p := fun z => by
      subst z
      exact h6 j d' e q1
    exact ⟨p', q1, q2.mono ef fun _ z => z, by rw [upd_ne hpp]; exact q3, q4, q5⟩
/-- the view of a result -/
theorem Sta.view (S : Sta K F0 T F G H r σ) {x : Res} {v : V} {d : D} (h : ResOk K T F G H r σ x v) (e : vw r x = some d) : Vw K F H d v := by
  cases x with
  | sh d' => cases e; exact .inl h
  | fr d' =>
    have e' : (if isDic d' then none else some d') = some d := e
    split at e'
    · cases e'
    · cases e'; obtain ⟨p, h1, h2, _⟩ := h; exact .inr ⟨p, h1, h2⟩
  | pk i =>
    obtain ⟨h1, d', h2⟩ := h
    have e' : (match r[i]? with | some (.own d) => some d | some (.sh d) => some d | _ => none) = some d := e
    rw [h2] at e'
    cases e'
    obtain ⟨p, q1, q2, _⟩ := S.ownS h2
    rw [h1] at q1
    cases q1
    exact .inr ⟨p, rfl, q2⟩
theorem Sta.viewR (S : Sta K F0 T F G H r σ) {x : Res} {v : V} {d : D} (h : ResOk K T F G H r σ x v) (e : VwR r G x d) : Vw K F H d v := by
  rcases e with e | ⟨a, rfl, hG⟩
  · exact S.view h e
  · cases (show v = .ref a from h)
    exact .inr ⟨a, rfl, S.bas.gh _ _ hG⟩
end
def Run (X : Cx) (e : Expr) : TE := fun σ H Q => ∀ (pins : List (Addr × Obj)) (s : Shared), Inv X pins σ H s → wpAny (model X.prog X.w) X.A (eval e X.env) (EP X pins σ Q) X.xe s
def RunT (X : Cx) (e : Expr) : TT := fun σ H Q => ∀ (pins : List (Addr × Obj)) (s : Shared), Inv X pins σ H s → wpAny (model X.prog X.w) X.A (isTrue e X.env (eval e X.env)) (TP X pins σ Q) X.xe s
def RunW (X : Cx) (e : Expr) : TT := fun σ H Q => ∀ (whole : Sem Value) (pins : List (Addr × Obj)) (s : Shared), Inv X pins σ H s → wpAny (model X.prog X.w) X.A (isTrue e X.env whole) (TP X pins σ Q) X.xe s
def RunA (X : Cx) (es : List Expr) : TA := fun σ H Q => ∀ (pos : Pos) (pins : List (Addr × Obj)) (s : Shared), Inv X pins σ H s → wpAny (model X.prog X.w) X.A (spliced (backTo pos (starEach es X.env))) (AP X pins σ Q) X.xe s
def RunS (X : Cx) (st : Stmt) : TS := fun D σ H => ∀ (pins : List (Addr × Obj)) (s : Shared), Inv X pins σ H s → wpAny (model X.prog X.w) X.A (exec st X.env) (SP X pins D) X.xe s
def RunB (X : Cx) (st : List Stmt) : TS := fun D σ H => ∀ (pins : List (Addr × Obj)) (s : Shared), Inv X pins σ H s → wpAny (model X.prog X.w) X.A (execs st X.env) (SP X pins D) X.xe s
section
variable {X : Cx} {e : Expr} {es : List Expr} {st : Stmt} {sts : List Stmt} {σ : L2.St} {H : Hp}
theorem peR : PE X e (Run X e) := ⟨fun pins s _ _ _ I h => h pins s I⟩
theorem ptR : PT X e (RunT X e) := ⟨fun pins s _ _ _ I h => h pins s I⟩
theorem pwR : PW X e (RunW X e) := ⟨fun w pins s _ _ _ I h => h w pins s I⟩
theorem paR : PA X es (RunA X es) := ⟨fun pos pins s _ _ _ I h => h pos pins s I⟩
theorem psR : PS X st (RunS X st) := ⟨fun pins s _ _ _ I h => h pins s I⟩
theorem pbR : PSs X sts (RunB X sts) := ⟨fun pins s _ _ _ I h => h pins s I⟩
theorem Run.of {t : TE} {Q : VK} (h : PE X e t) (q : t σ H Q) : Run X e σ H Q := fun pins s I => h.run pins s σ H Q I q
theorem RunT.of {t : TT} {Q : Bool → Hp → Prop} (h : PT X e t) (q : t σ H Q) : RunT X e σ H Q := fun pins s I => h.run pins s σ H Q I q
theorem RunW.of {t : TT} {Q : Bool → Hp → Prop} (h : PW X e t) (q : t σ H Q) : RunW X e σ H Q := fun w pins s I => h.run w pins s σ H Q I q
theorem RunA.of {t : TA} {Q : List V → Hp → Prop} (h : PA X es t) (q : t σ H Q) : RunA X es σ H Q := fun pos pins s I => h.run pos pins s σ H Q I q
theorem RunS.of {t : TS} {D : Ends} (h : PS X st t) (q : t D σ H) : RunS X st D σ H := fun pins s I => h.run pins s σ H D I q
theorem RunB.of {t : TS} {D : Ends} (h : PSs X sts t) (q : t D σ H) : RunB X sts D σ H := fun pins s I => h.run pins s σ H D I q
theorem Run.mono {Q Q' : VK} (h : Run X e σ H Q) (k : ∀ v H', Q v H' → Q' v H') : Run X e σ H Q' := fun pins s I =>
  wpAny_mono (h pins s I) (fun _ _ ⟨v, H', I', r, q⟩ => ⟨v, H', I', r, k v H' q⟩) fun _ _ x => x
theorem RunT.mono {Q Q' : Bool → Hp → Prop} (h : RunT X e σ H Q) (k : ∀ v H', Q v H' → Q' v H') : RunT X e σ H Q' := fun pins s I =>
  wpAny_mono (h pins s I) (fun _ _ ⟨H', I', q⟩ => ⟨H', I', k _ H' q⟩) fun _ _ x => x
theorem RunA.mono {Q Q' : List V → Hp → Prop} (h : RunA X es σ H Q) (k : ∀ v H', Q v H' → Q' v H') : RunA X es σ H Q' := fun pos pins s I =>
  wpAny_mono (h pos pins s I) (fun _ _ ⟨vs, H', I', r, q⟩ => ⟨vs, H', I', r, k _ H' q⟩) fun _ _ x => x
theorem SP.mono {pins : List (Addr × Obj)} {D D' : Ends} {f : Flow} {s : Shared} (h : SP X pins D f s) (k1 : ∀ σ H, D.nx σ H → D'.nx σ H) (k2 : ∀ v H, D.rt v H → D'.rt v H) (k3 : ∀ σ H, D.bk σ H → D'.bk σ H) (k4 : ∀ σ H, D.ct σ H → D'.ct σ H) : SP X pins D' f s := by
  cases f with
  | next => obtain ⟨a, b, c, d⟩ := h; exact ⟨a, b, c, k1 _ _ d⟩
  | brk => obtain ⟨a, b, c, d⟩ := h; exact ⟨a, b, c, k3 _ _ d⟩
  | cont => obtain ⟨a, b, c, d⟩ := h; exact ⟨a, b, c, k4 _ _ d⟩
  | ret u => obtain ⟨v, a, b, c, r, d⟩ := h; exact ⟨v, a, b, c, r, k2 _ _ d⟩
theorem RunS.mono {D D' : Ends} (h : RunS X st D σ H) (k1 : ∀ σ H, D.nx σ H → D'.nx σ H) (k2 : ∀ v H, D.rt v H → D'.rt v H) (k3 : ∀ σ H, D.bk σ H → D'.bk σ H) (k4 : ∀ σ H, D.ct σ H → D'.ct σ H) : RunS X st D' σ H := fun pins s I =>
  wpAny_mono (h pins s I) (fun _ _ q => SP.mono q k1 k2 k3 k4) fun _ _ x => x
theorem RunB.mono {D D' : Ends} (h : RunB X sts D σ H) (k1 : ∀ σ H, D.nx σ H → D'.nx σ H) (k2 : ∀ v H, D.rt v H → D'.rt v H) (k3 : ∀ σ H, D.bk σ H → D'.bk σ H) (k4 : ∀ σ H, D.ct σ H → D'.ct σ H) : RunB X sts D' σ H := fun pins s I =>
  wpAny_mono (h pins s I) (fun _ _ q => SP.mono q k1 k2 k3 k4) fun _ _ x => x
end
structure Exn where
  cls : Value
  fs : List (Str × D)
structure Cy extends L2.Cx where
  F0 : Hp
  T : Hp
  QX : Exn → Env2 → GD → Prop
instance : Coe Cy L2.Cx := ⟨Cy.toCx⟩
instance : CoeHead Cy L2.Cx := ⟨Cy.toCx⟩
structure Lk (X : Cy) (F0 T : Hp) : Prop where
  t : Ex X.T T
  f : Ex X.F0 F0
  ft : ∀ a o, F0 a = some o → X.F0 a = some o ∨ X.T a = none
theorem none_of {A B : Hp} (e : Ex A B) {a : Addr} (h : B a = none) : A a = none := by
  cases q : A a with
  | none => rfl
  | some o => rw [e a o q] at h; cases h
theorem Lk.base {X : Cy} {F0 T F : Hp} {G : GD} {H : Hp} (lk : Lk X F0 T) (B : Bas X.K F0 T F G H) : Lk X F T :=
  ⟨lk.t, lk.f.trans B.ff, fun a o h => (B.ft a o h).elim (fun z => lk.ft a o z) fun z => .inr (none_of lk.t z)⟩
theorem Lk.ext {X : Cy} {F0 T T' : Hp} (lk : Lk X F0 T) (e : Ex T T') : Lk X F0 T' := ⟨lk.t.trans e, lk.f, lk.ft⟩
theorem Lk.bas {X : Cy} {K : PySem.W.Frag} {F0 T F : Hp} {G : GD} {H : Hp} (lk : Lk X F0 T) (B : Bas K F0 T F G H) : Bas K X.F0 X.T F G H :=
  ⟨lk.f.trans B.ff, fun a o h => (B.ft a o h).elim (fun z => lk.ft a o z) fun z => .inr (none_of lk.t z), B.fh, B.gh, B.fg, fun a o h => none_of lk.t (B.gt a o h), lk.t.trans B.tk⟩
theorem Lk.sta {X : Cy} {K : PySem.W.Frag} {F0 T F : Hp} {G : GD} {H : Hp} {r : Env2} {σ : L2.St} (lk : Lk X F0 T) (S : Sta K F0 T F G H r σ) : Sta K X.F0 X.T F G H r σ := by
  refine ⟨lk.bas S.bas, S.len, fun i s e => ?_, S.ap⟩
  have h := S.sl i s e
  cases s with
  | no => trivial
  | sh d => exact h
  | own d =>
    obtain ⟨p, h1, h2, h3, h4, h5⟩ := h
    exact ⟨p, h1, h2, h3, h4, none_of lk.t h5⟩
/-- an exception (its class, its dict) as data -/
def ExOk (K : PySem.W.Frag) (F : Hp) (cls : Value) (d : Option Addr) (x : Exn) : Prop :=
  x.cls = cls ∧ ((d = none ∧ x.fs = []) ∨ ∃ a vs, d = some a ∧ F a = some (.xd ((x.fs.map (·.1)).zip vs)) ∧ RepL K F (x.fs.map (·.2)) vs)
theorem ExOk.mono {K : PySem.W.Frag} {F F' : Hp} {cls : Value} {d : Option Addr} {x : Exn} (e : Ex F F') (h : ExOk K F cls d x) : ExOk K F' cls d x := by
  obtain ⟨h1, ⟨h2, h3⟩ | ⟨a, vs, h2, h3, h4⟩⟩ := h
  · exact ⟨h1, .inl ⟨h2, h3⟩⟩
  · exact ⟨h1, .inr ⟨a, vs, h2, e _ _ h3, RepL.mono e _ _ h4⟩⟩
/-- the wish of a context -/
def Cy.WX (X : Cy) : L2.WX := fun cls d σ H => ∃ r G F x, Sta X.K X.F0 X.T F G H r σ ∧ ExOk X.K F cls d x ∧ X.QX x r G
def Cy.Tk (X : Cy) : Prop := L2.Takes X.toCx X.WX
def PostE (K : PySem.W.Frag) (F0 T F : Hp) (σ : L2.St) (Q : Res → Env2 → GD → Prop) : VK := fun v H' =>
  ∃ x r' G' F', Ex F F' ∧ Sta K F0 T F' G' H' r' σ ∧ ResOk K T F' G' H' r' σ x v ∧ Q x r' G'
def WE (X : Cy) (e : Expr) (r : Env2) (G : GD) (Q : Res → Env2 → GD → Prop) : Prop :=
  ∀ (F0 T F H : Hp) (σ : L2.St), Lk X F0 T → Sta X.K F0 T F G H r σ → Run X e σ H (PostE X.K F0 T F σ Q)
def PostT (K : PySem.W.Frag) (F0 T F : Hp) (σ : L2.St) (Q : Bool → Env2 → GD → Prop) : Bool → Hp → Prop := fun b H' =>
  ∃ r' G' F', Ex F F' ∧ Sta K F0 T F' G' H' r' σ ∧ Q b r' G'
def WT (X : Cy) (e : Expr) (r : Env2) (G : GD) (Q : Bool → Env2 → GD → Prop) : Prop :=
  ∀ (F0 T F H : Hp) (σ : L2.St), Lk X F0 T → Sta X.K F0 T F G H r σ → RunT X e σ H (PostT X.K F0 T F σ Q)
def WW (X : Cy) (e : Expr) (r : Env2) (G : GD) (Q : Bool → Env2 → GD → Prop) : Prop :=
  ∀ (F0 T F H : Hp) (σ : L2.St), Lk X F0 T → Sta X.K F0 T F G H r σ → RunW X e σ H (PostT X.K F0 T F σ Q)
def PostA (K : PySem.W.Frag) (F0 T F : Hp) (σ : L2.St) (Q : List D → Env2 → GD → Prop) : List V → Hp → Prop := fun vs H' =>
  ∃ ds r' G' F', Ex F F' ∧ Sta K F0 T F' G' H' r' σ ∧ RepL K F' ds vs ∧ Q ds r' G'
def WA (X : Cy) (es : List Expr) (r : Env2) (G : GD) (Q : List D → Env2 → GD → Prop) : Prop :=
  ∀ (F0 T F H : Hp) (σ : L2.St), Lk X F0 T → Sta X.K F0 T F G H r σ → RunA X es σ H (PostA X.K F0 T F σ Q)
structure EndsD where
  nx : Env2 → GD → Prop
  rt : Res → GD → Prop
  bk : Env2 → GD → Prop := fun _ _ => False
  ct : Env2 → GD → Prop := fun _ _ => False
def PostN (K : PySem.W.Frag) (F0 T : Hp) (Q : Env2 → GD → Prop) : L2.St → Hp → Prop := fun σ' H' => ∃ r' G' F', Sta K F0 T F' G' H' r' σ' ∧ Q r' G'
def PostR (K : PySem.W.Frag) (F0 T : Hp) (Q : Res → GD → Prop) : VK := fun v H' => ∃ x G' F', Bas K F0 T F' G' H' ∧ RtOk K T F' G' H' x v ∧ Q x G'
def EndsD.at (K : PySem.W.Frag) (F0 T : Hp) (D : EndsD) : Ends := { nx := PostN K F0 T D.nx, rt := PostR K F0 T D.rt, bk := PostN K F0 T D.bk, ct := PostN K F0 T D.ct }
def WS (X : Cy) (st : Stmt) (r : Env2) (G : GD) (D : EndsD) : Prop :=
  ∀ (F0 T F H : Hp) (σ : L2.St), Lk X F0 T → Sta X.K F0 T F G H r σ → RunS X st (D.at X.K F0 T) σ H
def WB (X : Cy) (sts : List Stmt) (r : Env2) (G : GD) (D : EndsD) : Prop :=
  ∀ (F0 T F H : Hp) (σ : L2.St), Lk X F0 T → Sta X.K F0 T F G H r σ → RunB X sts (D.at X.K F0 T) σ H
/-- freezing a result -/
def fz (r : Env2) : Res → Option (D × Env2)
  | .sh d => some (d, r)
  | .fr d => if isDic d then none else some (d, r)
  | .pk i => match r[i]? with
    | some (.own d) => if isDic d then none else some (d, r.set i (.sh d))
    | _ => none
section
variable {X : Cy} {e a b c : Expr} {es : List Expr} {st : Stmt} {sts rest : List Stmt} {r : Env2} {G : GD} {pos : Pos}
theorem Sta.fz {K : PySem.W.Frag} {F0 T F : Hp} {G : GD} {H : Hp} {r r2 : Env2} {σ : L2.St} {x : Res} {v : V} {d : D} (S : Sta K F0 T F G H r σ) (h : ResOk K T F G H r σ x v) (e : fz r x = some (d, r2)) : ∃ F', Ex F F' ∧ Sta K F0 T F' G H r2 σ ∧ Rep K F' d v := by
  cases x with
  | sh d' => cases e; exact ⟨F, Ex.refl _, S, h⟩
  | fr d' =>
    have e' : (if isDic d' then none else some (d', r)) = some (d, r2) := e
    cases hD : isDic d' with
    | true => rw [hD] at e'; cases e'
    | false =>
      rw [hD] at e'
      cases e'
      exact S.frzRes hD h
  | pk i =>
    obtain ⟨h1, d', h2⟩ := h
    have e' : (match r[i]? with | some (.own d) => if isDic d then none else some (d, r.set i (.sh d)) | _ => none) = some (d, r2) := e
    rw [h2] at e'
    dsimp only at e'
    have hD : isDic d' = false := by
      cases hD : isDic d' with
      | true => rw [hD] at e'; cases e'
      | false => rfl
    rw [hD] at e'
    cases e'
    obtain ⟨F', k1, k2, v', k3, k4⟩ := S.frzSlot hD h2
    rw [h1] at k3
    cases k3
    exact ⟨F', k1, k2, k4⟩
theorem WE.mono {Q Q' : Res → Env2 → GD → Prop} (h : WE X e r G Q) (k : ∀ x r' G', Q x r' G' → Q' x r' G') : WE X e r G Q' := fun F0 T F H σ lk S =>
  (h F0 T F H σ lk S).mono fun _ _ ⟨x, r', G', F', a, b, c, q⟩ => ⟨x, r', G', F', a, b, c, k _ _ _ q⟩
theorem WT.mono {Q Q' : Bool → Env2 → GD → Prop} (h : WT X e r G Q) (k : ∀ x r' G', Q x r' G' → Q' x r' G') : WT X e r G Q' := fun F0 T F H σ lk S =>
  (h F0 T F H σ lk S).mono fun _ _ ⟨r', G', F', a, b, q⟩ => ⟨r', G', F', a, b, k _ _ _ q⟩
theorem WB.mono {D D' : EndsD} (h : WB X sts r G D) (k1 : ∀ r G, D.nx r G → D'.nx r G) (k2 : ∀ x G, D.rt x G → D'.rt x G) (k3 : ∀ r G, D.bk r G → D'.bk r G) (k4 : ∀ r G, D.ct r G → D'.ct r G) : WB X sts r G D' := fun F0 T F H σ lk S =>
  (h F0 T F H σ lk S).mono (fun _ _ ⟨r', G', F', a, q⟩ => ⟨r', G', F', a, k1 _ _ q⟩) (fun _ _ ⟨x, G', F', a, b, q⟩ => ⟨x, G', F', a, b, k2 _ _ q⟩) (fun _ _ ⟨r', G', F', a, q⟩ => ⟨r', G', F', a, k3 _ _ q⟩) (fun _ _ ⟨r', G', F', a, q⟩ => ⟨r', G', F', a, k4 _ _ q⟩)
theorem WB.weak {r' : Env2} {D : EndsD} (w : Wk r r') (h : WB X sts r' G D) : WB X sts r G D := fun F0 T F H σ lk S => h F0 T F H σ lk (S.weak w)
theorem we_const {v : V} {d : D} {Q : Res → Env2 → GD → Prop} (h : PE X e (tC v)) (hd : ∀ K F, Rep K F d v) (q : Q (.sh d) r G) : WE X e r G Q := fun F0 T F H σ lk S =>
  Run.of h ⟨.sh d, r, G, F, Ex.refl _, S, hd _ _, q⟩
theorem we_int {i : Int} {j} {Q : Res → Env2 → GD → Prop} (q : Q (.sh (.int i)) r G) : WE X (.Constant (.int i) j pos) r G Q := we_const (d := .int i) pe_int (fun _ _ => rfl) q
theorem we_bl {i : Bool} {j} {Q : Res → Env2 → GD → Prop} (q : Q (.sh (.bl i)) r G) : WE X (.Constant (.bool i) j pos) r G Q := we_const (d := .bl i) pe_bl (fun _ _ => rfl) q
theorem we_str {i : Str} {j} {Q : Res → Env2 → GD → Prop} (q : Q (.sh (.str i)) r G) : WE X (.Constant (.str i) j pos) r G Q := we_const (d := .str i) pe_str (fun _ _ => rfl) q
theorem we_non {j} {Q : Res → Env2 → GD → Prop} (q : Q (.sh .non) r G) : WE X (.Constant .none j pos) r G Q := we_const (d := .non) pe_non (fun _ _ => rfl) q
/-- what reading a slot gives -/
def rdS (r : Env2) (i : Nat) : Option Res := match r[i]? with
  | some (.sh d) => some (.sh d)
  | some (.own _) => some (.pk i)
  | _ => none
theorem we_var (i : Nat) {x : Str} {y : Res} {Q : Res → Env2 → GD → Prop} (hN : X.N[i]? = some x) (hv : Vis X.env.scope x) (hy : rdS r i = some y) (q : Q y r G) (hd : (x == ("__debug__" : Str)) = false := by decide) (hcd : (x == ("__classdict__" : Str)) = false := by decide) :
    WE X (.Name x pos) r G Q := fun F0 T F H σ lk S => by
  refine Run.of (pe_var hN hv hd hcd) ?_
  cases hr : r[i]? with
  | none => unfold rdS at hy; rw [hr] at hy; cases hy
  | some s =>
    unfold rdS at hy
    rw [hr] at hy
    cases s with
    | no => cases hy
    | sh d =>
      cases hy
      obtain ⟨v, h1, h2⟩ := S.slot hr
      exact ⟨v, h1, .sh d, r, G, F, Ex.refl _, S, h2, q⟩
    | own d =>
      cases hy
      obtain ⟨p, h1, h2⟩ := S.ownS hr
      exact ⟨.ref p, h1, .pk i, r, G, F, Ex.refl _, S, ⟨h1, d, hr⟩, q⟩
/-- a constant of the module -/
theorem we_globI {x : Str} {i : Int} {t : Tok} {Q : Res → Env2 → GD → Prop} (hg : Gl X x) (hm : X.mg x = some (.int i t)) (q : Q (.sh (.int i)) r G) (hd : (x == ("__debug__" : Str)) = false := by decide) : WE X (.Name x pos) r G Q := we_const (v := .int i) (d := .int i) (pe_glob hg hm ⟨t, rfl⟩ hd) (fun _ _ => rfl) q
theorem we_globS {x : Str} {i : Str} {t : Tok} {Q : Res → Env2 → GD → Prop} (hg : Gl X x) (hm : X.mg x = some (.str i t)) (q : Q (.sh (.str i)) r G) (hd : (x == ("__debug__" : Str)) = false := by decide) : WE X (.Name x pos) r G Q := we_const (v := .str i) (d := .str i) (pe_glob hg hm ⟨t, rfl⟩ hd) (fun _ _ => rfl) q
/-- a two-place operation on viewed data -/
def OpW (X : Cy) (f : Value → Value → Sem Value) (da db : D) (Q : Res → Prop) : Prop :=
  ∀ (F0 T F : Hp) (G : GD) (H : Hp) (r : Env2) (σ : L2.St) (va vb : V), Sta X.K F0 T F G H r σ → Vw X.K F H da va → Vw X.K F H db vb →
    ∃ rr : R2, OpR X f rr ∧ rr va vb H (fun v H' => ∃ x F', Ex F F' ∧ Sta X.K F0 T F' G H' r σ ∧ ResOk X.K T F' G H' r σ x v ∧ Q x)
def opU (X : Cy) (f : Value → Value → Sem Value) : R2 := fun x y H Q => ∃ rr : R2, OpR X f rr ∧ rr x y H Q
theorem opU_ok (f : Value → Value → Sem Value) : OpR X f (opU X f) := fun pins s σ H x y v u Q I rx ry ⟨rr, h1, h2⟩ => h1 pins s σ H x y v u Q I rx ry h2
/-- a held result, its view at a later state -/
theorem hold {K : PySem.W.Frag} {F0 T F : Hp} {G : GD} {H : Hp} {r : Env2} {σ : L2.St} {x : Res} {v : V} (S : Sta K F0 T F G H r σ) (h : ResOk K T F G H r σ x v) :
    ∃ F1, Ex F F1 ∧ Sta K F0 T F1 G H r σ ∧ ∀ (F2 : Hp) (G2 : GD) (H2 : Hp) (r2 : Env2) (d : D), Ex F1 F2 → Sta K F0 T F2 G2 H2 r2 σ → VwR r2 G2 x d → Vw K F2 H2 d v := by
  have red : ∀ (F2 : Hp) (G2 : GD) (H2 : Hp) (r2 : Env2) (d : D), Sta K F0 T F2 G2 H2 r2 σ → (vw r2 x = some d → Vw K F2 H2 d v) → VwR r2 G2 x d → Vw K F2 H2 d v := fun F2 G2 H2 r2 d S2 k e => by
    rcases e with e | ⟨a, rfl, hG⟩
    · exact k e
    · cases (show v = .ref a from h)
      exact .inr ⟨a, rfl, S2.bas.gh _ _ hG⟩
  cases x with
  | sh d => exact ⟨F, Ex.refl _, S, fun F2 G2 H2 r2 d' ex S2 e => red F2 G2 H2 r2 d' S2 (fun e => by cases e; exact .inl (Rep.mono ex _ _ h)) e⟩
  | fr d =>
    cases hD : isDic d with
    | true =>
      refine ⟨F, Ex.refl _, S, fun F2 G2 H2 r2 d' ex S2 e => red F2 G2 H2 r2 d' S2 (fun e => ?_) e⟩
      have e' : (if isDic d then none else some d) = some d' := e
      rw [hD] at e'; cases e'
    | false =>
      obtain ⟨F1, k1, k2, k3⟩ := S.frzRes hD h
      refine ⟨F1, k1, k2, fun F2 G2 H2 r2 d' ex S2 e => red F2 G2 H2 r2 d' S2 (fun e => ?_) e⟩
      have e' : (if isDic d then none else some d) = some d' := e
      rw [hD] at e'; cases e'
      exact .inl (Rep.mono ex _ _ k3)
  | pk i =>
    refine ⟨F, Ex.refl _, S, fun F2 G2 H2 r2 d' ex S2 e => red F2 G2 H2 r2 d' S2 (fun e => ?_) e⟩
    obtain ⟨h1, d, h2⟩ := h
    have e' : (match r2[i]? with | some (.own d) => some d | some (.sh d) => some d | _ => none) = some d' := e
    cases hr : r2[i]? with
    | none => rw [hr] at e'; cases e'
    | some s =>
      rw [hr] at e'
      cases s with
      | no => cases e'
      | sh d2 =>
        cases e'
        obtain ⟨v', q1, q2⟩ := S2.slot hr
        rw [h1] at q1; cases q1
        exact .inl q2
      | own d2 =>
        cases e'
        obtain ⟨p, q1, q2, _⟩ := S2.ownS hr
        rw [h1] at q1; cases q1
        exact .inr ⟨p, rfl, q2⟩
/-- two operands, then an operation -/
theorem two {f : Value → Value → Sem Value} {Q : Res → Env2 → GD → Prop} {F0 T F H : Hp} {σ : L2.St} (lk : Lk X F0 T) (S : Sta X.K F0 T F G H r σ)
    (h : WE X a r G fun x r1 G1 => WE X b r1 G1 fun y r2 G2 => ∃ da db, VwR r2 G2 x da ∧ VwR r2 G2 y db ∧ OpW X f da db fun z => Q z r2 G2) :
    tOp (opU X f) (Run X a) (Run X b) σ H (PostE X.K F0 T F σ Q) := by
  refine (h F0 T F H σ lk S).mono fun va H1 ⟨x, r1, G1, F1, e1, S1, k1, h1⟩ => ?_
  obtain ⟨F1', e1', S1', hv⟩ := hold S1 k1
  refine (h1 F0 T F1' H1 σ lk S1').mono fun vb H2 ⟨y, r2, G2, F2, e2, S2, k2, da, db, q1, q2, q3⟩ => ?_
  obtain ⟨rr, h3, h4⟩ := q3 F0 T F2 G2 H2 r2 σ va vb S2 (hv F2 G2 H2 r2 da e2 S2 q1) (S2.viewR k2 q2)
  have post : (fun v H' => ∃ z F', Ex F2 F' ∧ Sta X.K F0 T F' G2 H' r2 σ ∧ ResOk X.K T F' G2 H' r2 σ z v ∧ Q z r2 G2) = (fun v H' => ∃ z F', Ex F2 F' ∧ Sta X.K F0 T F' G2 H' r2 σ ∧ ResOk X.K T F' G2 H' r2 σ z v ∧ Q z r2 G2) := rfl
  refine ⟨fun u w H Q' => rr u w H (fun v H' => ∃ z F', Ex F2 F' ∧ Sta X.K F0 T F' G2 H' r2 σ ∧ ResOk X.K T F' G2 H' r2 σ z v ∧ Q z r2 G2) ∧ ∀ v H', (∃ z F', Ex F2 F' ∧ Sta X.K F0 T F' G2 H' r2 σ ∧ ResOk X.K T F' G2 H' r2 σ z v ∧ Q z r2 G2) → Q' v H', fun pins s σ H x y v u Q' I rx ry ⟨q, m⟩ => ?_, h4, fun v H' ⟨z, F', m1, m2, m3, m4⟩ => ⟨z, r2, G2, F', ((e1.trans e1').trans e2).trans m1, m2, m3, m4⟩⟩
  exact wpAny_mono (h3 pins s σ H x y v u _ I rx ry q) (fun _ _ ⟨v, H', I', rl, q⟩ => ⟨v, H', I', rl, m v H' q⟩) fun _ _ x => x
theorem we_bin {op : Operator} {Q : Res → Env2 → GD → Prop}
    (h : WE X a r G fun x r1 G1 => WE X b r1 G1 fun y r2 G2 => ∃ da db, VwR r2 G2 x da ∧ VwR r2 G2 y db ∧ OpW X (binaryOp op) da db fun z => Q z r2 G2) : WE X (.BinOp a op b pos) r G Q :=
  fun _ _ _ _ _ lk S => Run.of (pe_op (opU_ok _) peR peR) (two lk S h)
theorem we_cmp {op : CmpOp} {Q : Res → Env2 → GD → Prop} (hm : behindInMarks op b = false)
    (h : WE X a r G fun x r1 G1 => WE X b r1 G1 fun y r2 G2 => ∃ da db, VwR r2 G2 x da ∧ VwR r2 G2 y db ∧ OpW X (compareOp op) da db fun z => Q z r2 G2) : WE X (.Compare a [op] [b] pos) r G Q :=
  fun _ _ _ _ _ lk S => Run.of (pe_cmpR (opU_ok _) peR peR hm) (two lk S h)
/-- the result is a truth value -/
def isB (Q : Bool → Env2 → GD → Prop) : Res → Env2 → GD → Prop := fun x r G => ∃ c, x = .sh (.bl c) ∧ Q c r G
theorem postB {K : PySem.W.Frag} {F0 T F : Hp} {σ : L2.St} {Q : Bool → Env2 → GD → Prop} {v : V} {H' : Hp} (h : PostE K F0 T F σ (isB Q) v H') : ∃ c, v = .bl c ∧ PostT K F0 T F σ Q c H' := by
  obtain ⟨x, r', G', F', k1, k2, k3, c, rfl, k4⟩ := h
  exact ⟨c, k3, r', G', F', k1, k2, k4⟩
theorem wt_cmp {op : CmpOp} {Q : Bool → Env2 → GD → Prop} (hm : behindInMarks op b = false)
    (h : WE X a r G fun x r1 G1 => WE X b r1 G1 fun y r2 G2 => ∃ da db, VwR r2 G2 x da ∧ VwR r2 G2 y db ∧ OpW X (compareOp op) da db fun z => isB Q z r2 G2) : WT X (.Compare a [op] [b] pos) r G Q :=
  fun F0 T F H σ lk S => RunT.of (pt_cmpR (opU_ok _) peR peR hm) (by
    have q := two (Q := isB Q) lk S h
    refine Run.mono q fun va H1 q1 => Run.mono q1 fun vb H2 ⟨rr, h3, h4⟩ => ⟨fun u w H Q' => rr u w H (PostE X.K F0 T F σ (isB Q)) ∧ ∀ v H', PostE X.K F0 T F σ (isB Q) v H' → Q' v H', fun pins s σ H x y v u Q' I rx ry ⟨q, m⟩ => ?_, h4, fun v H' z => postB z⟩
    exact wpAny_mono (h3 pins s σ H x y v u _ I rx ry q) (fun _ _ ⟨v, H', I', rl, q⟩ => ⟨v, H', I', rl, m v H' q⟩) fun _ _ x => x)
/-- a value as a test -/
theorem wt_val {Q : Bool → Env2 → GD → Prop} (he : ∀ whole, isTrue e X.env whole = (do let v ← whole; standAt e.pos; holding [v] (truthy v))) (h : WE X e r G (isB Q)) : WT X e r G Q :=
  fun F0 T F H σ lk S => RunT.of (pt_val peR he) ((h F0 T F H σ lk S).mono fun v H' q => postB q)
theorem wt_not {Q : Bool → Env2 → GD → Prop} (h : WT X a r G fun c => Q (!c)) : WT X (.UnaryOp .Not a pos) r G Q :=
  fun F0 T F H σ lk S => RunT.of (pt_not ptR) (h F0 T F H σ lk S)
theorem wt_w {Q : Bool → Env2 → GD → Prop} (h : WW X e r G Q) : WT X e r G Q := fun F0 T F H σ lk S pins s I => h F0 T F H σ lk S _ pins s I
theorem ww_or1 {Q : Bool → Env2 → GD → Prop} (h : WT X a r G Q) : WW X (.BoolOp .Or [a] pos) r G Q := fun F0 T F H σ lk S => RunW.of (pw_or1 ptR) (h F0 T F H σ lk S)
theorem ww_or {Q : Bool → Env2 → GD → Prop} (h : WT X a r G fun c r1 G1 => (c = false → WW X (.BoolOp .Or (b :: es) pos) r1 G1 Q) ∧ (c = true → Q true r1 G1)) : WW X (.BoolOp .Or (a :: b :: es) pos) r G Q := fun F0 T F H σ lk S =>
  RunW.of (pw_or ptR pwR) ((h F0 T F H σ lk S).mono fun c H1 ⟨r1, G1, F1, e1, S1, q1, q2⟩ => by
    cases c with
    | true => rw [if_pos rfl]; exact ⟨r1, G1, F1, e1, S1, q2 rfl⟩
    | false => rw [if_neg Bool.false_ne_true]; exact fun w pins s I => wpAny_mono (q1 rfl F0 T F1 H1 σ lk S1 w pins s I) (fun _ _ ⟨H', I', r', G', F', k1, k2, k3⟩ => ⟨H', I', r', G', F', e1.trans k1, k2, k3⟩) fun _ _ x => x)
/-- and, or, not as values (truth values) -/
theorem PostE.ext {K : PySem.W.Frag} {F0 T F F1 : Hp} {σ : L2.St} {Q : Res → Env2 → GD → Prop} (e : Ex F F1) {v : V} {H : Hp} (h : PostE K F0 T F1 σ Q v H) : PostE K F0 T F σ Q v H := by
  obtain ⟨x, r', G', F', k1, k2⟩ := h
  exact ⟨x, r', G', F', e.trans k1, k2⟩
theorem we_one {op} {Q : Res → Env2 → GD → Prop} (h : WE X a r G Q) : WE X (.BoolOp op [a] pos) r G Q := fun F0 T F H σ lk S => Run.of (pe_one peR) (h F0 T F H σ lk S)
theorem we_and {Q : Res → Env2 → GD → Prop} (h : WE X a r G (isB fun c r1 G1 => (c = true → WE X (.BoolOp .And (b :: es) pos) r1 G1 Q) ∧ (c = false → Q (.sh (.bl false)) r1 G1))) : WE X (.BoolOp .And (a :: b :: es) pos) r G Q := fun F0 T F H σ lk S =>
  Run.of (pe_and peR peR) ((h F0 T F H σ lk S).mono fun v H1 q => by
    obtain ⟨c, rfl, r1, G1, F1, e1, S1, q1, q2⟩ := postB q
    refine ⟨c, rfl, ?_⟩
    cases c with
    | true => rw [if_pos rfl]; exact (q1 rfl F0 T F1 H1 σ lk S1).mono fun _ _ z => z.ext e1
    | false => rw [if_neg Bool.false_ne_true]; exact ⟨.sh (.bl false), r1, G1, F1, e1, S1, rfl, q2 rfl⟩)
theorem we_not {Q : Res → Env2 → GD → Prop} (h : WE X a r G (isB fun c r1 G1 => Q (.sh (.bl (!c))) r1 G1)) : WE X (.UnaryOp .Not a pos) r G Q := fun F0 T F H σ lk S =>
  Run.of (pe_not peR) ((h F0 T F H σ lk S).mono fun v H1 q => by
    obtain ⟨c, rfl, r1, G1, F1, e1, S1, q1⟩ := postB q
    exact ⟨c, rfl, .sh (.bl (!c)), r1, G1, F1, e1, S1, rfl, q1⟩)
theorem we_ifExp {Q : Res → Env2 → GD → Prop} (h : WT X c r G fun d r1 G1 => (d = true → WE X a r1 G1 Q) ∧ (d = false → WE X b r1 G1 Q)) : WE X (.IfExp c a b pos) r G Q := fun F0 T F H σ lk S =>
  Run.of (pe_ifExp ptR peR peR) ((h F0 T F H σ lk S).mono fun d H1 ⟨r1, G1, F1, e1, S1, q1, q2⟩ => by
    cases d with
    | true => rw [if_pos rfl]; exact (q1 rfl F0 T F1 H1 σ lk S1).mono fun _ _ z => z.ext e1
    | false => rw [if_neg Bool.false_ne_true]; exact (q2 rfl F0 T F1 H1 σ lk S1).mono fun _ _ z => z.ext e1)
theorem wa_nil {Q : List D → Env2 → GD → Prop} (q : Q [] r G) : WA X [] r G Q := fun F0 T F H σ lk S => RunA.of pa_nil ⟨[], r, G, F, Ex.refl _, S, rfl, q⟩
theorem PostA.ext {K : PySem.W.Frag} {F0 T F F1 : Hp} {σ : L2.St} {Q : List D → Env2 → GD → Prop} (e : Ex F F1) {v : List V} {H : Hp} (h : PostA K F0 T F1 σ Q v H) : PostA K F0 T F σ Q v H := by
  obtain ⟨x, r', G', F', k1, k2⟩ := h
  exact ⟨x, r', G', F', e.trans k1, k2⟩
theorem wa_cons {Q : List D → Env2 → GD → Prop} (h : WE X e r G fun x r1 G1 => ∃ d r2, fz r1 x = some (d, r2) ∧ WA X es r2 G1 fun ds r3 G3 => Q (d :: ds) r3 G3)
    (hs : starEach (e :: es) X.env = (false, eval e X.env) :: starEach es X.env := by rfl) : WA X (e :: es) r G Q := fun F0 T F H σ lk S =>
  RunA.of (pa_cons peR paR hs) ((h F0 T F H σ lk S).mono fun v H1 ⟨x, r1, G1, F1, e1, S1, k1, d, r2, q1, q2⟩ => by
    obtain ⟨F2, e2, S2, rp⟩ := S1.fz k1 q1
    refine (q2 F0 T F2 H1 σ lk S2).mono fun vs H3 ⟨ds, r3, G3, F3, e3, S3, k3, q3⟩ => ?_
    exact ⟨d :: ds, r3, G3, F3, (e1.trans e2).trans e3, S3, ⟨v, vs, rfl, Rep.mono e3 _ _ rp, k3⟩, q3⟩)
/-- how many items a display may have -/
abbrev LIM : Nat := 16777216
theorem lim_ok {n : Nat} (h : n ≤ LIM) : n ≤ sizeLine := by rw [sizeLine_eq]; exact h
theorem lim_of {n : Nat} (h : n ≤ sizeLine) : n ≤ LIM := by rw [sizeLine_eq] at h; exact h
theorem lim_lt {n : Nat} (h : n < LIM) : n < sizeLine := by rw [sizeLine_eq]; exact h
/-- what lies in a heap is not too long -/
def BL (K : PySem.W.Frag) (H : Hp) : Prop := (∀ a xs, SqL K H a xs → xs.length ≤ LIM) ∧ (∀ a xs, SqT K H a xs → xs.length ≤ LIM) ∧ ∀ a kvs, Rd H a (.dK kvs) → kvs.length ≤ LIM
theorem bl_of {X : Cx} {pins : List (Addr × Obj)} {σ : L2.St} {H : Hp} {s : Shared} (I : Inv X pins σ H s) : BL X.K H := by
  refine ⟨fun a xs h => ?_, fun a xs h => ?_, fun a kvs h => ?_⟩
  · obtain ⟨_, _, _, z⟩ := I.list h
    exact lim_of z
  · obtain ⟨_, _, _, z⟩ := I.tuple h
    exact lim_of z
  · rcases h with h | ⟨o, h⟩
    · exact lim_of (I.hok _ _ h).1
    · exact lim_of (I.hok _ _ h).2.1
theorem Run.bl {X : Cx} {e : Expr} {σ : L2.St} {H : Hp} {Q : VK} (h : Run X e σ H Q) : Run X e σ H fun v H' => BL X.K H' ∧ Q v H' := fun pins s I =>
  wpAny_mono (h pins s I) (fun _ _ ⟨v, H', I', r, q⟩ => ⟨v, H', I', r, bl_of I', q⟩) fun _ _ x => x
theorem we_tup {k} {Q : Res → Env2 → GD → Prop} (h : WA X es r G fun ds r1 G1 => ds.length ≤ LIM ∧ Q (.sh (.tup ds)) r1 G1) : WE X (.Tuple es k pos) r G Q := fun F0 T F H σ lk S =>
  Run.of (pe_tup paR) ((h F0 T F H σ lk S).mono fun vs H1 ⟨ds, r1, G1, F1, e1, S1, k1, hl, q⟩ => ⟨by rw [k1.length]; exact lim_ok hl, fun p hp => by
    have ef : Ex F1 (upd F1 p (.tup vs)) := Ex.new (S1.bas.freshF hp).1
    exact ⟨.sh (.tup ds), r1, G1, upd F1 p (.tup vs), e1.trans ef, S1.newF hp, ⟨p, vs, rfl, .inl (.inl upd_same), RepL.mono ef _ _ k1⟩, q⟩⟩)
theorem we_lst {Q : Res → Env2 → GD → Prop} (h : WA X es r G fun ds r1 G1 => ds.length ≤ LIM ∧ Q (.fr (.lst ds)) r1 G1) : WE X (.List es pos) r G Q := fun F0 T F H σ lk S =>
  Run.of (pe_lst paR) ((h F0 T F H σ lk S).mono fun vs H1 ⟨ds, r1, G1, F1, e1, S1, k1, hl, q⟩ => ⟨by rw [k1.length]; exact lim_ok hl, fun p hp => by
    obtain ⟨h1, h2, h3⟩ := S1.bas.freshF hp
    exact ⟨.fr (.lst ds), r1, G1, F1, e1, S1.newH hp, ⟨p, rfl, ⟨vs, upd_same, k1⟩, h1, h2, h3, S1.freshR hp⟩, q⟩⟩)
end
section
variable {X : Cy} {e a b c : Expr} {es : List Expr} {st : Stmt} {sts rest : List Stmt} {r : Env2} {G : GD} {pos : Pos} {Q : Res → Prop}
theorem opw_flat {f : Value → Value → Sem Value} {da db d : D} {v : V} (hd : ∀ K F, Rep K F d v) (h : ∀ F H va vb, Ex F H → Vw X.K F H da va → Vw X.K F H db vb → ∃ rr, OpR X f rr ∧ ∀ P : VK, P v H → rr va vb H P) (q : Q (.sh d)) : OpW X f da db Q :=
  fun F0 T F G H r σ va vb S h1 h2 => by
    obtain ⟨rr, k1, k2⟩ := h F H va vb S.bas.fh h1 h2
    exact ⟨rr, k1, k2 _ ⟨.sh d, F, Ex.refl _, S, hd _ _, q⟩⟩
theorem opw_add {i j : Int} (q : Q (.sh (.int (i + j)))) : OpW X (binaryOp .Add) (.int i) (.int j) Q :=
  opw_flat (d := .int (i + j)) (v := .int (i + j)) (fun _ _ => rfl) (fun F H va vb _ h1 h2 => ⟨_, op_add, fun P p => ⟨i, j, h1.int, h2.int, p⟩⟩) q
theorem opw_sub {i j : Int} (q : Q (.sh (.int (i - j)))) : OpW X (binaryOp .Sub) (.int i) (.int j) Q :=
  opw_flat (d := .int (i - j)) (v := .int (i - j)) (fun _ _ => rfl) (fun F H va vb _ h1 h2 => ⟨_, op_sub, fun P p => ⟨i, j, h1.int, h2.int, p⟩⟩) q
theorem opw_mul {i j : Int} (hc : (-(2 ^ 64) < i ∧ i < 2 ^ 64) ∨ (-(2 ^ 64) < j ∧ j < 2 ^ 64)) (q : Q (.sh (.int (i * j)))) : OpW X (binaryOp .Mult) (.int i) (.int j) Q :=
  opw_flat (d := .int (i * j)) (v := .int (i * j)) (fun _ _ => rfl) (fun F H va vb _ h1 h2 => ⟨_, op_mul, fun P p => ⟨i, j, h1.int, h2.int, hc, p⟩⟩) q
theorem opw_fdiv {i j : Int} (hc : 0 < j ∧ j < 1073741824) (q : Q (.sh (.int (i / j)))) : OpW X (binaryOp .FloorDiv) (.int i) (.int j) Q :=
  opw_flat (d := .int (i / j)) (v := .int (i / j)) (fun _ _ => rfl) (fun F H va vb _ h1 h2 => ⟨_, op_fdiv, fun P p => ⟨i, j, h1.int, h2.int, hc, p⟩⟩) q
theorem opw_mod {i j : Int} (hc : 0 < j) (q : Q (.sh (.int (i % j)))) : OpW X (binaryOp .Mod) (.int i) (.int j) Q :=
  opw_flat (d := .int (i % j)) (v := .int (i % j)) (fun _ _ => rfl) (fun F H va vb _ h1 h2 => ⟨_, op_mod, fun P p => ⟨i, j, h1.int, h2.int, hc, p⟩⟩) q
theorem opw_pow {i j : Int} (hc : 0 ≤ j ∧ j ≤ 1000000 ∧ i.natAbs < 2 ^ 64) (q : Q (.sh (.int (i ^ j.toNat)))) : OpW X (binaryOp .Pow) (.int i) (.int j) Q :=
  opw_flat (d := .int (i ^ j.toNat)) (v := .int (i ^ j.toNat)) (fun _ _ => rfl) (fun F H va vb _ h1 h2 => ⟨_, op_pow, fun P p => ⟨i, j, h1.int, h2.int, hc, p⟩⟩) q
theorem opw_lt {i j : Int} (q : Q (.sh (.bl (decide (i < j))))) : OpW X (compareOp .Lt) (.int i) (.int j) Q :=
  opw_flat (d := .bl (decide (i < j))) (v := .bl (decide (i < j))) (fun _ _ => rfl) (fun F H va vb _ h1 h2 => ⟨_, op_lt, fun P p => ⟨i, j, h1.int, h2.int, p⟩⟩) q
theorem opw_le {i j : Int} (q : Q (.sh (.bl (decide (i ≤ j))))) : OpW X (compareOp .LtE) (.int i) (.int j) Q :=
  opw_flat (d := .bl (decide (i ≤ j))) (v := .bl (decide (i ≤ j))) (fun _ _ => rfl) (fun F H va vb _ h1 h2 => ⟨_, op_le, fun P p => ⟨i, j, h1.int, h2.int, p⟩⟩) q
theorem opw_gt {i j : Int} (q : Q (.sh (.bl (decide (j < i))))) : OpW X (compareOp .Gt) (.int i) (.int j) Q :=
  opw_flat (d := .bl (decide (j < i))) (v := .bl (decide (j < i))) (fun _ _ => rfl) (fun F H va vb _ h1 h2 => ⟨_, op_gt, fun P p => ⟨i, j, h1.int, h2.int, p⟩⟩) q
theorem opw_ge {i j : Int} (q : Q (.sh (.bl (decide (j ≤ i))))) : OpW X (compareOp .GtE) (.int i) (.int j) Q :=
  opw_flat (d := .bl (decide (j ≤ i))) (v := .bl (decide (j ≤ i))) (fun _ _ => rfl) (fun F H va vb _ h1 h2 => ⟨_, op_ge, fun P p => ⟨i, j, h1.int, h2.int, p⟩⟩) q
theorem vint_eq (i j : Int) : decide (V.int i = V.int j) = decide (i = j) := by
  by_cases h : i = j
  · subst h; simp
  · simp [h]
theorem vstr_eq (i j : Str) : decide (V.str i = V.str j) = decide (i = j) := by
  by_cases h : i = j
  · subst h; simp
  · simp [h]
theorem vbl_eq (i j : Bool) : decide (V.bl i = V.bl j) = (i == j) := by cases i <;> cases j <;> decide
theorem opw_eqI {i j : Int} (q : Q (.sh (.bl (decide (i = j))))) : OpW X (compareOp .Eq) (.int i) (.int j) Q :=
  opw_flat (d := .bl (decide (i = j))) (v := .bl (decide (i = j))) (fun _ _ => rfl) (fun F H va vb _ h1 h2 => ⟨_, op_eq, fun P p => by cases h1.int; cases h2.int; exact ⟨rfl, by rw [vint_eq]; exact p⟩⟩) q
theorem opw_neI {i j : Int} (q : Q (.sh (.bl (!decide (i = j))))) : OpW X (compareOp .NotEq) (.int i) (.int j) Q :=
  opw_flat (d := .bl (!decide (i = j))) (v := .bl (!decide (i = j))) (fun _ _ => rfl) (fun F H va vb _ h1 h2 => ⟨_, op_ne, fun P p => by cases h1.int; cases h2.int; exact ⟨rfl, by rw [vint_eq]; exact p⟩⟩) q
theorem opw_eqS {i j : Str} (q : Q (.sh (.bl (decide (i = j))))) : OpW X (compareOp .Eq) (.str i) (.str j) Q :=
  opw_flat (d := .bl (decide (i = j))) (v := .bl (decide (i = j))) (fun _ _ => rfl) (fun F H va vb _ h1 h2 => ⟨_, op_eq, fun P p => by cases h1.str; cases h2.str; exact ⟨rfl, by rw [vstr_eq]; exact p⟩⟩) q
theorem opw_eqB {i j : Bool} (q : Q (.sh (.bl (i == j)))) : OpW X (compareOp .Eq) (.bl i) (.bl j) Q :=
  opw_flat (d := .bl (i == j)) (v := .bl (i == j)) (fun _ _ => rfl) (fun F H va vb _ h1 h2 => ⟨_, op_eq, fun P p => by cases h1.bl; cases h2.bl; exact ⟨rfl, by rw [vbl_eq]; exact p⟩⟩) q
theorem opw_neB {i j : Bool} (q : Q (.sh (.bl (!(i == j))))) : OpW X (compareOp .NotEq) (.bl i) (.bl j) Q :=
  opw_flat (d := .bl (!(i == j))) (v := .bl (!(i == j))) (fun _ _ => rfl) (fun F H va vb _ h1 h2 => ⟨_, op_ne, fun P p => by cases h1.bl; cases h2.bl; exact ⟨rfl, by rw [vbl_eq]; exact p⟩⟩) q
/-- is None -/
def isNon : D → Bool
  | .non => true
  | _ => false
theorem vw_non {K : PySem.W.Frag} {F H : Hp} {d : D} {v : V} (h : Vw K F H d v) : decide (v = .non) = isNon d := by
  rcases h with h | ⟨p, rfl, h⟩
  · cases d with
    | non => cases (show v = .non from h); rfl
    | bl b => cases (show v = .bl b from h); rfl
    | int b => cases (show v = .int b from h); rfl
    | str b => cases (show v = .str b from h); rfl
    | tup b => obtain ⟨a, vs, rfl, _⟩ := h; rfl
    | lst b => obtain ⟨a, vs, rfl, _⟩ := h; rfl
    | dic ks b => obtain ⟨a, o, vs, rfl, _⟩ := h; rfl
    | ins C b => obtain ⟨a, dx, vs, rfl, _⟩ := h; rfl
    | adr b => cases (show v = .ref b from h); rfl
    | obj _ _ _ => exact h.elim
    | slo _ _ _ _ => exact h.elim
    | xdo _ _ => exact h.elim
    | tab _ => exact h.elim
    | hob _ _ => obtain ⟨rfl, _⟩ := h; rfl
    | kd _ _ _ => obtain ⟨a, ob, es, rfl, _⟩ := h; rfl
    | scr ns => obtain ⟨a, rfl, _⟩ := h; rfl
  · cases d with
    | lst b => rfl
    | dic ks b => rfl
    | obj _ _ _ => rfl
    | slo _ _ _ _ => rfl
    | xdo _ _ => rfl
    | tab _ => rfl
    | kd _ _ _ => rfl
    | _ => exact h.elim
theorem opw_isN {d : D} (q : Q (.sh (.bl (isNon d)))) : OpW X (compareOp .Is) d .non Q :=
  opw_flat (d := .bl (isNon d)) (v := .bl (isNon d)) (fun _ _ => rfl) (fun F H va vb _ h1 h2 => ⟨_, op_isN, fun P p => ⟨h2.non, by rw [vw_non h1]; exact p⟩⟩) q
/-- lists and tuples joined -/
theorem lst_of {X : Cx} {pins : List (Addr × Obj)} {σ : L2.St} {H : Hp} {s : Shared} {a : Addr} {xs : List V} (I : Inv X pins σ H s) (h : Rd H a (.lst xs)) : xs.length ≤ sizeLine ∧ ∃ (its : List Value) (n : Nat), Vals xs its ∧ s.heap.get? a = some { cls := .type "list", data := .seq its.toArray n } := by
  rcases h with h | ⟨o, h⟩
  · exact I.hok _ _ h
  · exact (I.hok _ _ h).2
def rCatR : R2 := fun x y H Q => ∃ l b xs zs, x = .ref l ∧ y = .ref b ∧ Rd H l (.lst xs) ∧ Rd H b (.lst zs) ∧ xs.length + zs.length ≤ sizeLine ∧ ∀ p, H p = none → Q (.ref p) (upd H p (.lst (xs ++ zs)))
theorem op_catR {X : Cx} : OpR X (binaryOp .Add) rCatR := by
  intro pins s σ H x y v u Q I rx ry h
  obtain ⟨l, b, xs, zs, rfl, rfl, hH, hB, hz, q⟩ := h
  cases rx
  cases ry
  obtain ⟨z, its, n, r, e⟩ := lst_of I hH
  obtain ⟨z2, its2, n2, r2, e2⟩ := lst_of I hB
  have hl := r.length
  have hl2 := r2.length
  refine PySem.P.add_list e e2 ?_ (by rw [List.size_toArray, List.size_toArray]; omega)
  have ea : its.toArray ++ its2.toArray = (its ++ its2).toArray := by simp
  rw [ea]
  exact ⟨.ref _, _, I.lnew (t' := s.toks) (r.append r2) (by rw [List.length_append]; omega), rfl, q _ I.fresh⟩
theorem opw_cat {xs ys : List D} (hl : xs.length + ys.length ≤ LIM) (q : Q (.fr (.lst (xs ++ ys)))) : OpW X (binaryOp .Add) (.lst xs) (.lst ys) Q :=
  fun F0 T F G H r σ va vb S h1 h2 => by
    obtain ⟨p1, vs, rfl, k1, k2⟩ := h1.lst S.bas.fh
    obtain ⟨p2, us, rfl, k3, k4⟩ := h2.lst S.bas.fh
    exact ⟨_, op_catR, p1, p2, vs, us, rfl, rfl, k1, k3, by rw [k2.length, k4.length]; exact lim_ok hl, fun p hp => by
      obtain ⟨f1, f2, f3⟩ := S.bas.freshF hp
      exact ⟨.fr (.lst (xs ++ ys)), F, Ex.refl _, S.newH hp, ⟨p, rfl, ⟨vs ++ us, upd_same, k2.append k4⟩, f1, f2, f3, S.freshR hp⟩, q⟩⟩
theorem opw_catT {xs ys : List D} (hl : xs.length + ys.length ≤ LIM) (q : Q (.sh (.tup (xs ++ ys)))) : OpW X (binaryOp .Add) (.tup xs) (.tup ys) Q :=
  fun F0 T F G H r σ va vb S h1 h2 => by
    obtain ⟨p1, vs, rfl, k1, k2⟩ := h1.tup S.bas.fh
    obtain ⟨p2, us, rfl, k3, k4⟩ := h2.tup S.bas.fh
    have r1 : Rep X.K F (.tup xs) (.ref p1) := by
      rcases h1 with h | ⟨_, _, h⟩
      · exact h
      · exact h.elim
    have r2 : Rep X.K F (.tup ys) (.ref p2) := by
      rcases h2 with h | ⟨_, _, h⟩
      · exact h
      · exact h.elim
    refine ⟨_, op_catA, p1, p2, vs, us, rfl, rfl, k1, k3, by rw [k2.length, k4.length]; exact lim_ok hl, fun e => ?_, fun _ e => ?_, fun _ _ p hp => ?_⟩
    · have e1 : xs = [] := by have := k2.length; rw [e] at this; exact List.length_eq_zero_iff.mp this.symm
      subst e1
      exact ⟨.sh (.tup ys), F, Ex.refl _, S, r2, q⟩
    · have e1 : ys = [] := by have := k4.length; rw [e] at this; exact List.length_eq_zero_iff.mp this.symm
      subst e1
      refine ⟨.sh (.tup (xs ++ [])), F, Ex.refl _, S, ?_, q⟩
      rw [List.append_nil]
      exact r1
    · have ef : Ex F (upd F p (.tup (vs ++ us))) := Ex.new (S.bas.freshF hp).1
      exact ⟨.sh (.tup (xs ++ ys)), upd F p (.tup (vs ++ us)), ef, S.newF hp, ⟨p, vs ++ us, rfl, .inl (.inl upd_same), RepL.mono ef _ _ (k2.append k4)⟩, q⟩
mutual
def toP : D → PyData
  | .non => .none
  | .bl b => .bool b
  | .int i => .int i
  | .str x => .str x
  | .tup ds => .tuple (toPs ds)
  | .lst ds => .list (toPs ds)
  | _ => .none
def toPs : List D → List PyData
  | [] => []
  | d :: ds => toP d :: toPs ds
end
def okD : Nat → D → Prop
  | _, .non => True
  | _, .bl _ => True
  | _, .int _ => True
  | _, .str x => PyData.strOk x = true
  | n + 1, .tup ds => ∀ d ∈ ds, okD n d
  | n + 1, .lst ds => ∀ d ∈ ds, okD n d
  | _, _ => False
theorem okD.dp {K : PySem.W.Frag} {F H : Hp} (e : Ex F H) : ∀ (n : Nat) (d : D) (v : V), okD n d → Vw K F H d v → Dp K H v (toP d) := by
  have all : ∀ n, (∀ (d : D) (v : V), okD n d → Vw K F H d v → Dp K H v (toP d)) → ∀ (ds : List D) (vs : List V), (∀ d ∈ ds, okD n d) → RepL K F ds vs → DpAll K H vs (toPs ds) := by
    intro n ih ds
    induction ds with
    | nil => intro vs _ h; cases (show vs = [] from h); exact .nil
    | cons d ds ih2 =>
      intro vs hk h
      obtain ⟨v, r, rfl, h1, h2⟩ := h
      exact .cons (ih d v (hk d List.mem_cons_self) (.inl h1)) (ih2 r (fun x hx => hk x (List.mem_cons_of_mem _ hx)) h2)
  intro n
  induction n with
  | zero =>
    intro d v hk h
    cases d with
    | non => cases h.non; exact .non
    | bl b => cases h.bl; exact .bl b
    | int b => cases h.int; exact .int b
    | str b => cases h.str; exact .str b
    | _ => exact hk.elim
  | succ n ih =>
    intro d v hk h
    cases d with
    | non => cases h.non; exact .non
    | bl b => cases h.bl; exact .bl b
    | int b => cases h.int; exact .int b
    | str b => cases h.str; exact .str b
    | tup ds =>
      obtain ⟨a, vs, rfl, h1, h2⟩ := h.tup e
      exact .tup h1 (all n ih ds vs hk h2)
    | lst ds =>
      obtain ⟨a, vs, rfl, h1, h2⟩ := h.lst e
      exact .lst (.inl h1) (all n ih ds vs hk h2)
    | _ => exact hk.elim
theorem okD.dep : ∀ (n : Nat) (d : D), okD n d → (toP d).depth ≤ n := by
  have all : ∀ n, (∀ d, okD n d → (toP d).depth ≤ n) → ∀ ds : List D, (∀ d ∈ ds, okD n d) → PyData.depthAll (toPs ds) ≤ n := by
    intro n ih ds
    induction ds with
    | nil => intro _; exact Nat.zero_le _
    | cons d ds ih2 =>
      intro hk
      show max (PyData.depth (toP d)) (PyData.depthAll (toPs ds)) ≤ n
      exact Nat.max_le.mpr ⟨ih d (hk d List.mem_cons_self), ih2 fun x hx => hk x (List.mem_cons_of_mem _ hx)⟩
  intro n
  induction n with
  | zero =>
    intro d hk
    cases d with
    | str b => exact Nat.le_refl _
    | non => exact Nat.le_refl _
    | bl b => exact Nat.le_refl _
    | int b => exact Nat.le_refl _
    | _ => exact hk.elim
  | succ n ih =>
    intro d hk
    cases d with
    | str b => exact Nat.zero_le _
    | non => exact Nat.zero_le _
    | bl b => exact Nat.zero_le _
    | int b => exact Nat.zero_le _
    | tup ds => exact Nat.succ_le_succ (all n ih ds hk)
    | lst ds => exact Nat.succ_le_succ (all n ih ds hk)
    | _ => exact hk.elim
theorem okD.lay : ∀ (n : Nat) (d : D), okD n d → (toP d).canLay0 = true := by
  have all : ∀ n, (∀ d, okD n d → (toP d).canLay0 = true) → ∀ ds : List D, (∀ d ∈ ds, okD n d) → PyData.canLayAll0 (toPs ds) = true := by
    intro n ih ds
    induction ds with
    | nil => intro _; rfl
    | cons d ds ih2 =>
      intro hk
      show (PyData.canLay0 (toP d) && PyData.canLayAll0 (toPs ds)) = true
      rw [ih d (hk d List.mem_cons_self), ih2 fun x hx => hk x (List.mem_cons_of_mem _ hx)]; rfl
  intro n
  induction n with
  | zero =>
    intro d hk
    cases d with
    | str b => exact hk
    | non => rfl
    | bl b => rfl
    | int b => rfl
    | _ => exact hk.elim
  | succ n ih =>
    intro d hk
    cases d with
    | str b => exact hk
    | non => rfl
    | bl b => rfl
    | int b => rfl
    | tup ds => exact all n ih ds hk
    | lst ds => exact all n ih ds hk
    | _ => exact hk.elim
theorem okD.shaped {n : Nat} {d : D} (h : okD n d) (hn : n ≤ 64) : SeqAt.shaped (toP d) = true := by
  unfold SeqAt.shaped
  rw [okD.lay n d h, decide_eq_true (Nat.le_trans (okD.dep n d h) hn)]; rfl
def eqD (a b : D) : Bool := PyData.eqv (toP a) (toP b)
theorem opw_eqD {da db : D} {n : Nat} (hu : X.A.units + 64 < cLine) (h1 : okD n da) (h2 : okD n db) (hn : n ≤ 64) (q : Q (.sh (.bl (eqD da db)))) : OpW X (compareOp .Eq) da db Q :=
  opw_flat (d := .bl (eqD da db)) (v := .bl (eqD da db)) (fun _ _ => rfl) (fun F H va vb e k1 k2 => ⟨_, op_eqD hu, fun P p => ⟨_, _, okD.dp e n _ _ h1 k1, okD.dp e n _ _ h2 k2, h1.shaped hn, h2.shaped hn, p⟩⟩) q
def IxW (X : Cy) (da db : D) (Q : Res → Prop) : Prop :=
  ∀ (F0 T F : Hp) (G : GD) (H : Hp) (r : Env2) (σ : L2.St) (va vb : V), Sta X.K F0 T F G H r σ → Vw X.K F H da va → Vw X.K F H db vb →
    ∃ rr : R2, IxR X rr ∧ rr va vb H (fun v H' => ∃ x F', Ex F F' ∧ Sta X.K F0 T F' G H' r σ ∧ ResOk X.K T F' G H' r σ x v ∧ Q x)
def ixU (X : Cy) : R2 := fun x y H Q => ∃ rr : R2, IxR X rr ∧ rr x y H Q
theorem ixU_ok : IxR X (ixU X) := fun value slice pins s σ H x y v u Q I rx ry ⟨rr, h1, h2⟩ hs => h1 value slice pins s σ H x y v u Q I rx ry h2 hs
theorem we_ix {Q : Res → Env2 → GD → Prop} (hp : PlainIx b)
    (h : WE X a r G fun x r1 G1 => WE X b r1 G1 fun y r2 G2 => ∃ da db, VwR r2 G2 x da ∧ VwR r2 G2 y db ∧ IxW X da db fun z => Q z r2 G2) : WE X (.Subscript a b pos) r G Q :=
  fun F0 T F H σ lk S => Run.of (pe_ix ixU_ok peR peR hp) (by
    refine (h F0 T F H σ lk S).mono fun va H1 ⟨x, r1, G1, F1, e1, S1, k1, h1⟩ => ?_
    obtain ⟨F1', e1', S1', hv⟩ := hold S1 k1
    refine (h1 F0 T F1' H1 σ lk S1').mono fun vb H2 ⟨y, r2, G2, F2, e2, S2, k2, da, db, q1, q2, q3⟩ => ?_
    obtain ⟨rr, h3, h4⟩ := q3 F0 T F2 G2 H2 r2 σ va vb S2 (hv F2 G2 H2 r2 da e2 S2 q1) (S2.viewR k2 q2)
    refine ⟨fun u w H Q' => rr u w H (fun v H' => ∃ z F', Ex F2 F' ∧ Sta X.K F0 T F' G2 H' r2 σ ∧ ResOk X.K T F' G2 H' r2 σ z v ∧ Q z r2 G2) ∧ ∀ v H', (∃ z F', Ex F2 F' ∧ Sta X.K F0 T F' G2 H' r2 σ ∧ ResOk X.K T F' G2 H' r2 σ z v ∧ Q z r2 G2) → Q' v H', fun value slice pins s σ H x y v u Q' I rx ry ⟨q, m⟩ hs => ?_, h4, fun v H' ⟨z, F', m1, m2, m3, m4⟩ => ⟨z, r2, G2, F', ((e1.trans e1').trans e2).trans m1, m2, m3, m4⟩⟩
    exact wpAny_mono (h3 value slice pins s σ H x y v u _ I rx ry q hs) (fun _ _ ⟨v, H', I', rl, q⟩ => ⟨v, H', I', rl, m v H' q⟩) fun _ _ x => x)
/-- an item by an index of any sign -/
def atD (xs : List D) (i : Int) : Option D := (ixN xs.length i).bind fun j => xs[j]?
theorem atD_get {K : PySem.W.Frag} {F : Hp} {xs : List D} {vs : List V} {i : Int} {d : D} (h : RepL K F xs vs) (e : atD xs i = some d) : ∃ v, atI vs i = some v ∧ Rep K F d v := by
  unfold atD at e
  unfold atI
  rw [h.length]
  cases hj : ixN xs.length i with
  | none => rw [hj] at e; cases e
  | some j =>
    rw [hj] at e
    exact h.get e
theorem ixw_lst {xs : List D} {i : Int} {d : D} (e : atD xs i = some d) (q : Q (.sh d)) : IxW X (.lst xs) (.int i) Q := fun F0 T F G H r σ va vb S h1 h2 => by
  obtain ⟨p, vs, rfl, k1, k2⟩ := h1.lst S.bas.fh
  cases h2.int
  obtain ⟨v, k3, k4⟩ := atD_get k2 e
  exact ⟨_, ix_list, p, vs, i, v, rfl, rfl, .inl k1, k3, .sh d, F, Ex.refl _, S, k4, q⟩
theorem ixw_tup {xs : List D} {i : Int} {d : D} (e : atD xs i = some d) (q : Q (.sh d)) : IxW X (.tup xs) (.int i) Q := fun F0 T F G H r σ va vb S h1 h2 => by
  obtain ⟨p, vs, rfl, k1, k2⟩ := h1.tup S.bas.fh
  cases h2.int
  obtain ⟨v, k3, k4⟩ := atD_get k2 e
  exact ⟨_, ix_tup, p, vs, i, v, rfl, rfl, k1, k3, .sh d, F, Ex.refl _, S, k4, q⟩
theorem atD_nat {xs : List D} {j : Nat} {d : D} (e : xs[j]? = some d) : atD xs (j : Int) = some d := by
  have hj := (List.getElem?_eq_some_iff.mp e).1
  unfold atD ixN
  rw [if_pos (by omega), if_pos (by omega)]
  simpa using e
/-- one operand -/
theorem we_un {op : UnaryOp} {Q : Res → Env2 → GD → Prop} (hop : op = .USub) (h : WE X a r G fun x r1 G1 => ∃ i, vw r1 x = some (.int i) ∧ Q (.sh (.int (-i))) r1 G1) : WE X (.UnaryOp op a pos) r G Q := fun F0 T F H σ lk S => by
  subst hop
  exact Run.of (pe_un un_neg peR) ((h F0 T F H σ lk S).mono fun va H1 ⟨x, r1, G1, F1, e1, S1, k1, i, h1, h2⟩ => ⟨i, (S1.view k1 h1).int, .sh (.int (-i)), r1, G1, F1, e1, S1, rfl, h2⟩)
end
inductive All2 {A B : Type} (R : A → B → Prop) : List A → List B → Prop
  | nil : All2 R [] []
  | cons {a : A} {b : B} {as : List A} {bs : List B} (h : R a b) (t : All2 R as bs) : All2 R (a :: as) (b :: bs)
section
variable {X : Cy} {e a b c o : Expr} {es : List Expr} {st : Stmt} {sts rest body orelse : List Stmt} {r : Env2} {G : GD} {pos : Pos} {D0 : EndsD}
theorem wb_nil (h : D0.nx r G) : WB X [] r G D0 := fun F0 T F H σ lk S => RunB.of pss_nil ⟨r, G, F, S, h⟩
theorem wb_cons (h : WS X st r G { D0 with nx := fun r1 G1 => WB X rest r1 G1 D0 }) : WB X (st :: rest) r G D0 := fun F0 T F H σ lk S =>
  RunB.of (pss_cons psR pbR) ((h F0 T F H σ lk S).mono (fun σ' H' ⟨r', G', F', S', q⟩ => q F0 T F' H' σ' lk S') (fun _ _ z => z) (fun _ _ z => z) (fun _ _ z => z))
/-- a block's state cut: what holds behind the first statement -/
theorem wb_cut (W : Env2 → GD → Prop) (h : WS X st r G { D0 with nx := W }) (k : ∀ r1 G1, W r1 G1 → WB X rest r1 G1 D0) : WB X (st :: rest) r G D0 := fun F0 T F H σ lk S =>
  RunB.of (pss_cons psR pbR) ((h F0 T F H σ lk S).mono (fun σ' H' ⟨r', G', F', S', q⟩ => k r' G' q F0 T F' H' σ' lk S') (fun _ _ z => z) (fun _ _ z => z) (fun _ _ z => z))
theorem ws_if (h : WT X c r G fun d r1 G1 => (d = true → WB X body r1 G1 D0) ∧ (d = false → WB X orelse r1 G1 D0)) : WS X (.If c body orelse pos) r G D0 := fun F0 T F H σ lk S =>
  RunS.of (ps_if ptR pbR pbR) ((h F0 T F H σ lk S).mono fun d H1 ⟨r1, G1, F1, e1, S1, q1, q2⟩ => by
    cases d with
    | true => rw [if_pos rfl]; exact q1 rfl F0 T F1 H1 σ lk S1
    | false => rw [if_neg Bool.false_ne_true]; exact q2 rfl F0 T F1 H1 σ lk S1)
theorem ws_expr (h : WE X e r G fun _ r1 G1 => D0.nx r1 G1) (hs : swapsWith e none pos.line X.env = pure false := by rfl) : WS X (.Expr e pos) r G D0 := fun F0 T F H σ lk S =>
  RunS.of (ps_expr peR hs) ((h F0 T F H σ lk S).mono fun v H1 ⟨x, r1, G1, F1, e1, S1, k1, q⟩ => ⟨r1, G1, F1, S1, q⟩)
/-- what is handed out -/
def rtS (r : Env2) : Res → Option Res
  | .sh d => some (.sh d)
  | .fr d => some (.fr d)
  | .pk i => match r[i]? with
    | some (.own d) => some (.fr d)
    | _ => none
theorem ws_ret (h : WE X e r G fun x r1 G1 => ∃ y, rtS r1 x = some y ∧ D0.rt y G1) : WS X (.Return (some e) pos) r G D0 := fun F0 T F H σ lk S =>
  RunS.of (ps_ret peR) ((h F0 T F H σ lk S).mono fun v H1 ⟨x, r1, G1, F1, e1, S1, k1, y, q1, q2⟩ => by
    refine ⟨y, G1, F1, S1.bas, ?_, q2⟩
    cases x with
    | sh d => cases q1; exact k1
    | fr d => cases q1; obtain ⟨p, z1, z2, z3, z4, z5, _⟩ := k1; exact ⟨p, z1, z2, z3, z4, z5⟩
    | pk i =>
      obtain ⟨h1, d, h2⟩ := k1
      have q1' : (match r1[i]? with | some (.own d) => some (Res.fr d) | _ => none) = some y := q1
      rw [h2] at q1'
      cases q1'
      obtain ⟨p, z1, z2, z3, z4, z5⟩ := S1.ownS h2
      rw [h1] at z1; cases z1
      exact ⟨p, rfl, z2, z3, z4, z5⟩)
def putS (r : Env2) (i : Nat) : Res → Option Env2
  | .sh d => some (r.set i (.sh d))
  | .fr d => some (r.set i (.own d))
  | .pk j => match r[j]? with
    | some (.own d) => if isDic d then none else some ((r.set j (.sh d)).set i (.sh d))
    | _ => none
theorem Sta.putS {K : PySem.W.Frag} {F0 T F : Hp} {G : GD} {H : Hp} {r r2 : Env2} {σ : L2.St} {x : Res} {v : V} {i : Nat} (S : Sta K F0 T F G H r σ) (h : ResOk K T F G H r σ x v) (hi : i < r.length) (e : putS r i x = some r2) : ∃ F', Ex F F' ∧ Sta K F0 T F' G H r2 (σ.set i (some v)) := by
  cases x with
  | sh d => cases e; exact ⟨F, Ex.refl _, S.set hi ⟨v, rfl, h⟩ fun d' z => nomatch z⟩
  | fr d =>
    cases e
    obtain ⟨p, z1, z2, z3, z4, z5, z6⟩ := h
    subst z1
    exact ⟨F, Ex.refl _, S.set hi ⟨p, rfl, z2, z3, z4, z5⟩ fun d' _ j e' he _ => z6 j e' he⟩
  | pk j =>
    obtain ⟨h1, d, h2⟩ := h
    have e' : (match r[j]? with | some (.own d) => if isDic d then none else some ((r.set j (.sh d)).set i (.sh d)) | _ => none) = some r2 := e
    rw [h2] at e'
    dsimp only at e'
    have hD : isDic d = false := by
      cases hD : isDic d with
      | true => rw [hD] at e'; cases e'
      | false => rfl
    rw [hD] at e'
    cases e'
    obtain ⟨F', k1, k2, v', k3, k4⟩ := S.frzSlot hD h2
    rw [h1] at k3; cases k3
    exact ⟨F', k1, k2.set (by rw [List.length_set]; exact hi) ⟨v, rfl, k4⟩ fun d' z => nomatch z⟩
theorem ws_set (i : Nat) {x : Str} {pos' : Pos} (hN : X.N.Nodup) (hi : X.N[i]? = some x) (hx : Loc X.env.scope x) (h : WE X e r G fun y r1 G1 => i < r1.length ∧ ∃ r2, putS r1 i y = some r2 ∧ D0.nx r2 G1)
    (hs : swapsWith e (some (.Name x pos')) pos.line X.env = pure false := by rfl) (hf : X.fn x = true ∨ X.env.scope.names.lookup x = some .local := by first | exact .inl rfl | exact .inr rfl | assumption) : WS X (.Assign [.Name x pos'] e pos) r G D0 := fun F0 T F H σ lk S =>
  RunS.of (ps_set hN hi hx peR hs hf) ((h F0 T F H σ lk S).mono fun v H1 ⟨y, r1, G1, F1, e1, S1, k1, hi', r2, q1, q2⟩ => by
    obtain ⟨F2, e2, S2⟩ := S1.putS k1 hi' q1
    exact ⟨r2, G1, F2, S2, q2⟩)
/-- x += e, on ints -/
theorem ws_augI (i : Nat) {x : Str} {n : Int} {pos' : Pos} (hN : X.N.Nodup) (hi : X.N[i]? = some x) (hx : Loc X.env.scope x) (hr : r[i]? = some (.sh (.int n))) (h : WE X e r G fun y r1 G1 => i < r1.length ∧ ∃ m, vw r1 y = some (.int m) ∧ D0.nx (r1.set i (.sh (.int (n + m)))) G1)
    (hf : X.fn x = true ∨ X.env.scope.names.lookup x = some .local := by first | exact .inl rfl | exact .inr rfl | assumption) : WS X (.AugAssign (.Name x pos') .Add e pos) r G D0 := fun F0 T F H σ lk S =>
  RunS.of (ps_aug hN hi hx peR ip_add hf) (by
    obtain ⟨v, h1, h2⟩ := S.slot hr
    cases (show v = .int n from h2)
    refine ⟨.int n, h1, (h F0 T F H σ lk S).mono fun v H1 ⟨y, r1, G1, F1, e1, S1, k1, hi', m, q1, q2⟩ => ?_⟩
    exact ⟨n, m, rfl, (S1.view k1 q1).int, r1.set i (.sh (.int (n + m))), G1, F1, S1.set hi' ⟨_, rfl, rfl⟩ (fun d' z => nomatch z), q2⟩)
/-- targets: names in a row, from frozen data -/
theorem pgs_run : ∀ {tg : List Expr} {ixs : List Nat}, All2 (fun t i => PG X t (gName i)) tg ixs → (∀ t ∈ tg, ∀ ts, (assignEach (t :: ts) X.env).map (·.2) = assign t X.env :: (assignEach ts X.env).map (·.2)) →
    PGs X tg (fun vs σ H Q => vs.length = ixs.length ∧ Q ((ixs.zip vs).foldl (fun s p => s.set p.1 (some p.2)) σ) H)
  | [], [], .nil, _ => ⟨fun pins s σ H vs us Q I rv h => (pgs_nil (X := X)).run pins s σ H vs us Q I rv ⟨List.length_eq_zero_iff.mp h.1, by
      have e : vs = [] := List.length_eq_zero_iff.mp h.1
      subst e
      exact h.2⟩⟩
  | t :: tg, i :: ixs, .cons hp hr, hs => ⟨fun pins s σ H vs us Q I rv h => by
      obtain ⟨hl, q⟩ := h
      cases vs with
      | nil => simp at hl
      | cons v vs =>
        refine (pgs_cons hp (pgs_run hr fun t' ht => hs t' (List.mem_cons_of_mem _ ht)) (hs t List.mem_cons_self tg)).run pins s σ H (v :: vs) us Q I rv ⟨v, vs, rfl, ?_⟩
        exact ⟨by simpa using hl, q⟩⟩
def setAll (r : Env2) : List Nat → List D → Env2
  | i :: is, d :: ds => setAll (r.set i (.sh d)) is ds
  | _, _ => r
theorem Sta.setAll {K : PySem.W.Frag} {F0 T F : Hp} {G : GD} {H : Hp} : ∀ (is : List Nat) (ds : List D) (vs : List V) {r : Env2} {σ : L2.St}, Sta K F0 T F G H r σ → RepL K F ds vs → is.length = ds.length → (∀ i ∈ is, i < r.length) →
    Sta K F0 T F G H (setAll r is ds) ((is.zip vs).foldl (fun s p => s.set p.1 (some p.2)) σ)
  | [], [], vs, r, σ, S, h, _, _ => by
    unfold RB.setAll
    exact S
  | i :: is, d :: ds, vs, r, σ, S, h, hl, hi => by
    obtain ⟨v, vr, rfl, h1, h2⟩ := h
    unfold RB.setAll
    exact Sta.setAll is ds vr (S.set (hi i List.mem_cons_self) ⟨v, rfl, h1⟩ fun d' z => nomatch z) h2 (by simpa using hl) fun j hj => by rw [List.length_set]; exact hi j (List.mem_cons_of_mem _ hj)
  | [], d :: ds, vs, r, σ, S, h, hl, _ => by simp at hl
  | i :: is, [], vs, r, σ, S, h, hl, _ => by simp at hl
/-- a result that is no own slot -/
def nz (r : Env2) : Res → Option (Res × Env2)
  | .sh d => some (.sh d, r)
  | .fr d => some (.fr d, r)
  | .pk i => match r[i]? with
    | some (.own d) => if isDic d then none else some (.sh d, r.set i (.sh d))
    | _ => none
def slO : Res → Sl
  | .sh d => .sh d
  | .fr d => .own d
  | .pk _ => .no
theorem Sta.nz {K : PySem.W.Frag} {F0 T F : Hp} {G : GD} {H : Hp} {r r2 : Env2} {σ : L2.St} {x y : Res} {v : V} (S : Sta K F0 T F G H r σ) (h : ResOk K T F G H r σ x v) (e : nz r x = some (y, r2)) : ∃ F', Ex F F' ∧ Sta K F0 T F' G H r2 σ ∧ ResOk K T F' G H r2 σ y v ∧ ∀ i, y ≠ .pk i := by
  cases x with
  | sh d => cases e; exact ⟨F, Ex.refl _, S, h, fun i z => nomatch z⟩
  | fr d => cases e; exact ⟨F, Ex.refl _, S, h, fun i z => nomatch z⟩
  | pk i =>
    obtain ⟨h1, d, h2⟩ := h
    have e' : (match r[i]? with | some (.own d) => if isDic d then none else some (Res.sh d, r.set i (.sh d)) | _ => none) = some (y, r2) := e
    rw [h2] at e'
    dsimp only at e'
    have hD : isDic d = false := by
      cases hD : isDic d with
      | true => rw [hD] at e'; cases e'
      | false => rfl
    rw [hD] at e'
    cases e'
    obtain ⟨F', k1, k2, v', k3, k4⟩ := S.frzSlot hD h2
    rw [h1] at k3; cases k3
    exact ⟨F', k1, k2, k4, fun i z => nomatch z⟩
theorem holdT {K : PySem.W.Frag} {F0 T F : Hp} {G : GD} {H : Hp} {r : Env2} {σ : L2.St} {z : Res} {v : V} (S : Sta K F0 T F G H r σ) (h : ResOk K T F G H r σ z v) (hz : ∀ i, z ≠ .pk i) :
    ∃ T', Ex T T' ∧ Sta K F0 T' F G H r σ ∧ ∀ (F2 : Hp) (G2 : GD) (H2 : Hp) (r2 : Env2) (σ2 : L2.St), Ex F F2 → Sta K F0 T' F2 G2 H2 r2 σ2 → Sta K F0 T F2 G2 H2 r2 σ2 ∧ ResOk K T F2 G2 H2 r2 σ2 z v ∧
      ∀ (z2 : Res) (v2 : V), ResOk K T' F2 G2 H2 r2 σ2 z2 v2 → ResOk K T F2 G2 H2 r2 σ2 z2 v2 ∧ ∀ d d2, z = .fr d → z2 = .fr d2 → v ≠ v2 := by
  cases z with
  | pk i => exact absurd rfl (hz i)
  | sh d => exact ⟨T, Ex.refl _, S, fun F2 G2 H2 r2 σ2 ex S2 => ⟨S2, Rep.mono ex _ _ h, fun z2 v2 k => ⟨k, fun d d2 q => nomatch q⟩⟩⟩
  | fr d =>
    obtain ⟨p, rfl, z2, z3, z4, z5, z6⟩ := h
    obtain ⟨o, ho⟩ := z2.there
    refine ⟨upd T p o, Ex.new z5, ?_, ?_⟩
    · refine ⟨⟨S.bas.ff, fun q u hq => ?_, S.bas.fh, S.bas.gh, S.bas.fg, fun q u hq => ?_, fun q u hq => ?_⟩, S.len, fun i s hs => ?_, S.ap⟩
      · have hqp : q ≠ p := fun zz => by subst zz; rw [z3] at hq; cases hq
        rw [upd_ne hqp]
        exact S.bas.ft q u hq
      · have hqp : q ≠ p := fun zz => by subst zz; rw [z4] at hq; cases hq
        rw [upd_ne hqp]
        exact S.bas.gt q u hq
      · by_cases hqp : q = p
        · subst hqp; rw [upd_same] at hq; cases hq; exact ho
        · rw [upd_ne hqp] at hq; exact S.bas.tk q u hq
      · have hh := S.sl i s hs
        cases s with
        | no => trivial
        | sh d => exact hh
        | own d =>
          obtain ⟨p', y1, y2, y3, y4, y5⟩ := hh
          have hqp : p' ≠ p := fun zz => by subst zz; exact z6 i d hs y1
          exact ⟨p', y1, y2, y3, y4, by rw [upd_ne hqp]; exact y5⟩
    · intro F2 G2 H2 r2 σ2 ex S2
      have tsub : ∀ q u, T q = some u → upd T p o q = some u := fun q u hq => by
        have hqp : q ≠ p := fun zz => by subst zz; rw [z5] at hq; cases hq
        rw [upd_ne hqp]; exact hq
      have tdown : ∀ q, upd T p o q = none → T q = none := fun q hq => by
        cases hf : T q with
        | none => rfl
        | some u => rw [tsub q u hf] at hq; cases hq
      have tp : ∀ q, upd T p o q = none → q ≠ p := fun q hq zz => by subst zz; rw [upd_same] at hq; cases hq
      have fp : F2 p = none := by
        cases hf : F2 p with
        | none => rfl
        | some u =>
          rcases S2.bas.ft p u hf with zz | zz
          · have := S.bas.ff p u zz
            rw [z3] at this; cases this
          · exact absurd rfl (tp p zz)
      have gp : G2 p = none := by
        cases hf : G2 p with
        | none => rfl
        | some u => exact absurd rfl (tp p (S2.bas.gt p u hf))
      refine ⟨⟨⟨S2.bas.ff, fun q u hq => (S2.bas.ft q u hq).imp id (tdown q), S2.bas.fh, S2.bas.gh, S2.bas.fg, fun q u hq => tdown q (S2.bas.gt q u hq), fun q u hq => S2.bas.tk q u (tsub q u hq)⟩, S2.len, fun i s hs => ?_, S2.ap⟩, ⟨p, rfl, z2.mono ex fun u hu => by rw [ho] at hu; cases hu; exact S2.bas.tk p o upd_same, fp, gp, z5, fun k d' hk zz => ?_⟩, fun z2' v2 k => ?_⟩
      · have hh := S2.sl i s hs
        cases s with
        | no => trivial
        | sh d => exact hh
        | own d =>
          obtain ⟨p', k1, k2, k3, k4, k5⟩ := hh
          exact ⟨p', k1, k2, k3, k4, tdown p' k5⟩
      · obtain ⟨p', k1, _, _, _, k5⟩ := S2.ownS hk
        rw [zz] at k1; cases k1
        exact tp p k5 rfl
      · cases z2' with
        | sh d => exact ⟨k, fun d d2 _ q => nomatch q⟩
        | pk i => exact ⟨k, fun d d2 _ q => nomatch q⟩
        | fr d' =>
          obtain ⟨p2, rfl, k2, k3, k4, k5, k6⟩ := k
          exact ⟨⟨p2, rfl, k2, k3, k4, tdown p2 k5, k6⟩, fun _ _ _ _ zz => by cases zz; exact tp p k5 rfl⟩
/-- a held result goes to a slot -/
theorem Sta.setR {K : PySem.W.Frag} {F0 T F : Hp} {G : GD} {H : Hp} {r : Env2} {σ : L2.St} {z : Res} {v : V} {i : Nat} (S : Sta K F0 T F G H r σ) (h : ResOk K T F G H r σ z v) (hi : i < r.length) (hz : ∀ i, z ≠ .pk i) : Sta K F0 T F G H (r.set i (slO z)) (σ.set i (some v)) := by
  cases z with
  | pk j => exact absurd rfl (hz j)
  | sh d => exact S.set hi ⟨v, rfl, h⟩ fun d' z => nomatch z
  | fr d =>
    obtain ⟨p, rfl, z2, z3, z4, z5, z6⟩ := h
    exact S.set hi ⟨p, rfl, z2, z3, z4, z5⟩ fun d' _ j e' he _ => z6 j e' he
/-- .. and another held one stays good -/
theorem ResOk.setR {K : PySem.W.Frag} {T F : Hp} {G : GD} {H : Hp} {r : Env2} {σ : L2.St} {z z2 : Res} {v v2 : V} {i : Nat} (h2 : ResOk K T F G H r σ z2 v2) (hi : i < r.length) (hl : r.length = σ.length) (hz : ∀ i, z ≠ .pk i) (hz2 : ∀ i, z2 ≠ .pk i) (hd : ∀ d d2, z = .fr d → z2 = .fr d2 → v ≠ v2) :
    ResOk K T F G H (r.set i (slO z)) (σ.set i (some v)) z2 v2 := by
  cases z2 with
  | pk j => exact absurd rfl (hz2 j)
  | sh d => exact h2
  | fr d =>
    obtain ⟨p, rfl, k2, k3, k4, k5, k6⟩ := h2
    refine ⟨p, rfl, k2, k3, k4, k5, fun k e' he zz => ?_⟩
    by_cases hki : i = k
    · subst hki
      rw [List.getElem?_set_self hi] at he
      rw [List.getElem?_set_self (by rw [← hl]; exact hi)] at zz
      cases z with
      | pk j => exact hz j rfl
      | sh d' => cases he
      | fr d' => cases zz; exact hd d' d rfl rfl rfl
    · rw [List.getElem?_set_ne hki] at he zz
      exact k6 k e' he zz
/-- a, b = e1, e2 with local names -/
theorem ws_par (i j : Nat) {x y : Str} {px py pt : Pos} {kt k2 pt2} (hc : X.calm = true) (hN : X.N.Nodup) (hi : X.N[i]? = some x) (hj : X.N[j]? = some y) (hij : i ≠ j) (hx : X.env.scope.names.lookup x = some .local) (hy : X.env.scope.names.lookup y = some .local)
    (hw : swappedStores [.Tuple [.Name x px, .Name y py] kt pt] (.Tuple [a, b] k2 pt2) X.env = pure (some [x, y]))
    (h : WE X a r G fun z r1 G1 => ∃ z' r2, nz r1 z = some (z', r2) ∧ WE X b r2 G1 fun w r3 G3 => ∃ w' r4, nz r3 w = some (w', r4) ∧ i < r4.length ∧ j < r4.length ∧ D0.nx ((r4.set i (slO z')).set j (slO w')) G3)
    (hs : swapsWithSole [.Tuple [.Name x px, .Name y py] kt pt] (.Tuple [a, b] k2 pt2) pos.line X.env = pure false := by rfl)
    (h1 : starEach [a, b] X.env = (false, eval a X.env) :: starEach [b] X.env := by rfl) (h2 : starEach [b] X.env = (false, eval b X.env) :: starEach [] X.env := by rfl) :
    WS X (.Assign [.Tuple [.Name x px, .Name y py] kt pt] (.Tuple [a, b] k2 pt2) pos) r G D0 := fun F0 T F H σ lk S =>
  RunS.of (ps_par hc hN hi hj hij hx hy (pa_cons peR (pa_cons peR pa_nil h2) h1) hw hs) ((h F0 T F H σ lk S).mono fun v H1 ⟨z, r1, G1, F1, e1, S1, k1, z', r2, q1, q2⟩ => by
    obtain ⟨F2, e2, S2, k2, hz⟩ := S1.nz k1 q1
    obtain ⟨T', tx, S2', hold⟩ := holdT S2 k2 hz
    refine (q2 F0 T' F2 H1 σ (lk.ext tx) S2').mono fun w H3 ⟨u, r3, G3, F3, e3, S3, k3, w', r4, q3, hi', hj', q4⟩ => ?_
    obtain ⟨F4, e4, S4, k4, hz4⟩ := S3.nz k3 q3
    obtain ⟨S5, m1, m2⟩ := hold F4 G3 H3 r4 σ (e3.trans e4) S4
    obtain ⟨m3, m4⟩ := m2 w' w k4
    refine ⟨v, w, rfl, _, G3, F4, ?_, q4⟩
    exact (S5.setR m1 hi' hz).setR (m3.setR hi' S5.len hz hz4 m4) (by rw [List.length_set]; exact hj') hz4)
end
def isort (ns : List Int) : List Int := ns.mergeSort fun a b => decide (a ≤ b)
theorem isort_perm (ns : List Int) : (isort ns).Perm ns := List.mergeSort_perm ns _
theorem isort_sorted (ns : List Int) : (isort ns).Pairwise (· ≤ ·) := by
  have h := List.pairwise_mergeSort (le := fun a b : Int => decide (a ≤ b)) (fun a b c h1 h2 => by simp at *; omega) (fun a b => by simp; omega) ns
  exact h.imp fun h => by simpa using h
theorem sorted_unique : ∀ {xs ys : List Int}, xs.Perm ys → xs.Pairwise (· ≤ ·) → ys.Pairwise (· ≤ ·) → xs = ys := fun {xs ys} p h1 h2 =>
  List.Perm.eq_of_pairwise (le := (· ≤ ·)) (fun a b _ _ h h' => Int.le_antisymm h h') h1 h2 p
theorem isort_of {xs ys : List Int} (p : xs.Perm ys) (h : xs.Pairwise (· ≤ ·)) : xs = isort ys := sorted_unique (p.trans (isort_perm ys).symm) h (isort_sorted ys)
theorem isort_length (ns : List Int) : (isort ns).length = ns.length := (isort_perm ns).length_eq
section
variable {X : Cy} {e a b c o : Expr} {es : List Expr} {st : Stmt} {sts rest body orelse : List Stmt} {r : Env2} {G : GD} {pos p0 : Pos} {D0 : EndsD} {Q : Res → Prop}
def CallW1 (X : Cy) (f : Value) (d : D) (Q : Res → Prop) : Prop :=
  ∀ (F0 T F : Hp) (G : GD) (H : Hp) (r : Env2) (σ : L2.St) (v : V), Sta X.K F0 T F G H r σ → Vw X.K F H d v →
    ∃ rr : List V → Hp → VK → Prop, CallR X f rr ∧ rr [v] H (fun v' H' => ∃ x F', Ex F F' ∧ Sta X.K F0 T F' G H' r σ ∧ ResOk X.K T F' G H' r σ x v' ∧ Q x)
def CallW2 (X : Cy) (f : Value) (da db : D) (Q : Res → Prop) : Prop :=
  ∀ (F0 T F : Hp) (G : GD) (H : Hp) (r : Env2) (σ : L2.St) (va vb : V), Sta X.K F0 T F G H r σ → Vw X.K F H da va → Vw X.K F H db vb →
    ∃ rr : List V → Hp → VK → Prop, CallR X f rr ∧ rr [va, vb] H (fun v' H' => ∃ x F', Ex F F' ∧ Sta X.K F0 T F' G H' r σ ∧ ResOk X.K T F' G H' r σ x v' ∧ Q x)
def callU (X : Cy) (f : Value) : List V → Hp → VK → Prop := fun vs H Q => ∃ rr : List V → Hp → VK → Prop, CallR X f rr ∧ rr vs H Q
theorem callU_ok (f : Value) : CallR X f (callU X f) := fun pins s σ H xs us Q I rv ⟨rr, h1, h2⟩ => h1 pins s σ H xs us Q I rv h2
theorem CallR.post {f : Value} {rr : List V → Hp → VK → Prop} (h : CallR X f rr) (P : VK) : CallR X f (fun vs H Q' => rr vs H P ∧ ∀ v H', P v H' → Q' v H') := fun pins s σ H xs us Q' I rv ⟨q, m⟩ =>
  wpAny_mono (h pins s σ H xs us P I rv q) (fun _ _ ⟨v, H', I', rl, q⟩ => ⟨v, H', I', rl, m v H' q⟩) fun _ _ x => x
theorem one1 {f : Value} {Q : Res → Env2 → GD → Prop} {F0 T F H : Hp} {σ : L2.St} (lk : Lk X F0 T) (S : Sta X.K F0 T F G H r σ) (h : WE X e r G fun x r1 G1 => ∃ d, VwR r1 G1 x d ∧ CallW1 X f d fun z => Q z r1 G1) :
    tCB (callU X f) (tCons (Run X e) tNil) σ H (PostE X.K F0 T F σ Q) := by
  refine (h F0 T F H σ lk S).mono fun v H1 ⟨x, r1, G1, F1, e1, S1, k1, d, q1, q2⟩ => ?_
  obtain ⟨rr, h3, h4⟩ := q2 F0 T F1 G1 H1 r1 σ v S1 (S1.viewR k1 q1)
  exact ⟨_, CallR.post h3 _, h4, fun v H' ⟨z, F', m1, m2, m3, m4⟩ => ⟨z, r1, G1, F', e1.trans m1, m2, m3, m4⟩⟩
theorem we_b1 {x : Str} {id : String} {Q : Res → Env2 → GD → Prop} (hg : Gl X x) (hm : X.mg x = none) (hv : bootBuiltins x = some (.builtin id)) (h : WE X e r G fun x r1 G1 => ∃ d, VwR r1 G1 x d ∧ CallW1 X (.builtin id) d fun z => Q z r1 G1)
    (hn : x ≠ "__name__" := by decide) (hdb : (x == ("__debug__" : Str)) = false := by decide) (he : starEach [e] X.env = (false, eval e X.env) :: starEach [] X.env := by rfl) (hpl : (backTo pos (starEach [] X.env)).any (·.1) = false := by rfl) :
    WE X (.Call (.Name x p0) [e] [] pos) r G Q := fun F0 T F H σ lk S => Run.of (pe_callB (callU_ok _) hg hm hv (pa_cons peR pa_nil he) hn hdb he hpl) (one1 lk S h)
theorem we_t1 {x : Str} {id : String} {Q : Res → Env2 → GD → Prop} (hg : Gl X x) (hm : X.mg x = none) (hv : bootBuiltins x = some (.type id)) (h : WE X e r G fun x r1 G1 => ∃ d, VwR r1 G1 x d ∧ CallW1 X (.type id) d fun z => Q z r1 G1)
    (hn : x ≠ "__name__" := by decide) (hdb : (x == ("__debug__" : Str)) = false := by decide) (he : starEach [e] X.env = (false, eval e X.env) :: starEach [] X.env := by rfl) (hpl : (backTo pos (starEach [] X.env)).any (·.1) = false := by rfl) :
    WE X (.Call (.Name x p0) [e] [] pos) r G Q := fun F0 T F H σ lk S => Run.of (pe_callTy (callU_ok _) hg hm hv (pa_cons peR pa_nil he) hn hdb he hpl) (one1 lk S h)
theorem two2 {f : Value} {Q : Res → Env2 → GD → Prop} {F0 T F H : Hp} {σ : L2.St} (lk : Lk X F0 T) (S : Sta X.K F0 T F G H r σ) (h : WE X a r G fun x r1 G1 => WE X b r1 G1 fun y r2 G2 => ∃ da db, VwR r2 G2 x da ∧ VwR r2 G2 y db ∧ CallW2 X f da db fun z => Q z r2 G2) :
    tCB (callU X f) (tCons (Run X a) (tCons (Run X b) tNil)) σ H (PostE X.K F0 T F σ Q) := by
  refine (h F0 T F H σ lk S).mono fun va H1 ⟨x, r1, G1, F1, e1, S1, k1, h1⟩ => ?_
  obtain ⟨F1', e1', S1', hv⟩ := hold S1 k1
  refine (h1 F0 T F1' H1 σ lk S1').mono fun vb H2 ⟨y, r2, G2, F2, e2, S2, k2, da, db, q1, q2, q3⟩ => ?_
  obtain ⟨rr, h3, h4⟩ := q3 F0 T F2 G2 H2 r2 σ va vb S2 (hv F2 G2 H2 r2 da e2 S2 q1) (S2.viewR k2 q2)
  exact ⟨_, CallR.post h3 _, h4, fun v H' ⟨z, F', m1, m2, m3, m4⟩ => ⟨z, r2, G2, F', ((e1.trans e1').trans e2).trans m1, m2, m3, m4⟩⟩
theorem we_b2 {x : Str} {id : String} {Q : Res → Env2 → GD → Prop} (hg : Gl X x) (hm : X.mg x = none) (hv : bootBuiltins x = some (.builtin id)) (h : WE X a r G fun x r1 G1 => WE X b r1 G1 fun y r2 G2 => ∃ da db, VwR r2 G2 x da ∧ VwR r2 G2 y db ∧ CallW2 X (.builtin id) da db fun z => Q z r2 G2)
    (hn : x ≠ "__name__" := by decide) (hdb : (x == ("__debug__" : Str)) = false := by decide) (he : starEach [a, b] X.env = (false, eval a X.env) :: starEach [b] X.env := by rfl) (he2 : starEach [b] X.env = (false, eval b X.env) :: starEach [] X.env := by rfl) (hpl : (backTo pos (starEach [b] X.env)).any (·.1) = false := by rfl) :
    WE X (.Call (.Name x p0) [a, b] [] pos) r G Q := fun F0 T F H σ lk S => Run.of (pe_callB (callU_ok _) hg hm hv (pa_cons peR (pa_cons peR pa_nil he2) he) hn hdb he hpl) (two2 lk S h)
theorem c1_flat {f : Value} {d d' : D} {v' : V} (hd : ∀ K F, Rep K F d' v') (h : ∀ F H v, Ex F H → Vw X.K F H d v → ∃ rr, CallR X f rr ∧ ∀ P : VK, P v' H → rr [v] H P) (q : Q (.sh d')) : CallW1 X f d Q :=
  fun F0 T F G H r σ v S h1 => by
    obtain ⟨rr, k1, k2⟩ := h F H v S.bas.fh h1
    exact ⟨rr, k1, k2 _ ⟨.sh d', F, Ex.refl _, S, hd _ _, q⟩⟩
theorem c2_flat {f : Value} {da db d' : D} {v' : V} (hd : ∀ K F, Rep K F d' v') (h : ∀ F H va vb, Ex F H → Vw X.K F H da va → Vw X.K F H db vb → ∃ rr, CallR X f rr ∧ ∀ P : VK, P v' H → rr [va, vb] H P) (q : Q (.sh d')) : CallW2 X f da db Q :=
  fun F0 T F G H r σ va vb S h1 h2 => by
    obtain ⟨rr, k1, k2⟩ := h F H va vb S.bas.fh h1 h2
    exact ⟨rr, k1, k2 _ ⟨.sh d', F, Ex.refl _, S, hd _ _, q⟩⟩
theorem c_len {ds : List D} (q : Q (.sh (.int (ds.length : Nat)))) : CallW1 X (.builtin "len") (.lst ds) Q :=
  c1_flat (d' := .int (ds.length : Nat)) (v' := .int (ds.length : Nat)) (fun _ _ => rfl) (fun F H v ex h => by
    obtain ⟨p, vs, rfl, k1, k2⟩ := h.lst ex
    exact ⟨_, call_len_seq, fun P hp => ⟨p, vs, rfl, .inl (.inl k1), by rw [k2.length]; exact hp⟩⟩) q
theorem c_lenT {ds : List D} (q : Q (.sh (.int (ds.length : Nat)))) : CallW1 X (.builtin "len") (.tup ds) Q :=
  c1_flat (d' := .int (ds.length : Nat)) (v' := .int (ds.length : Nat)) (fun _ _ => rfl) (fun F H v ex h => by
    obtain ⟨p, vs, rfl, k1, k2⟩ := h.tup ex
    exact ⟨_, call_len_seq, fun P hp => ⟨p, vs, rfl, .inr k1, by rw [k2.length]; exact hp⟩⟩) q
theorem c_abs {i : Int} (q : Q (.sh (.int (if i < 0 then -i else i)))) : CallW1 X (.builtin "abs") (.int i) Q :=
  c1_flat (d' := .int (if i < 0 then -i else i)) (v' := .int (if i < 0 then -i else i)) (fun _ _ => rfl) (fun F H v ex h => ⟨_, call_abs, fun P hp => ⟨i, by rw [h.int], hp⟩⟩) q
theorem c_int {i : Int} (q : Q (.sh (.int i))) : CallW1 X (.type "int") (.int i) Q :=
  c1_flat (d' := .int i) (v' := .int i) (fun _ _ => rfl) (fun F H v ex h => ⟨_, call_int1, fun P hp => .inl ⟨i, by rw [h.int], hp⟩⟩) q
theorem c_max2 {i j : Int} (hc : X.calm = true) (q : Q (.sh (.int (if j > i then j else i)))) : CallW2 X (.builtin "max") (.int i) (.int j) Q :=
  c2_flat (d' := .int (if j > i then j else i)) (v' := .int (if j > i then j else i)) (fun _ _ => rfl) (fun F H va vb ex h1 h2 => ⟨_, call_max2 hc, fun P hp => ⟨i, j, by rw [h1.int, h2.int], hp⟩⟩) q
/-- a new list, a new tuple as the result -/
theorem new_lst {K : PySem.W.Frag} {F0 T F : Hp} {G : GD} {H : Hp} {r : Env2} {σ : L2.St} (S : Sta K F0 T F G H r σ) {ds : List D} {vs : List V} (h : RepL K F ds vs) {p : Addr} (hp : H p = none) {Q : Res → Prop} (q : Q (.fr (.lst ds))) :
    ∃ x F', Ex F F' ∧ Sta K F0 T F' G (upd H p (.lst vs)) r σ ∧ ResOk K T F' G (upd H p (.lst vs)) r σ x (.ref p) ∧ Q x := by
  obtain ⟨f1, f2, f3⟩ := S.bas.freshF hp
  exact ⟨.fr (.lst ds), F, Ex.refl _, S.newH hp, ⟨p, rfl, ⟨vs, upd_same, h⟩, f1, f2, f3, S.freshR hp⟩, q⟩
theorem new_tup {K : PySem.W.Frag} {F0 T F : Hp} {G : GD} {H : Hp} {r : Env2} {σ : L2.St} (S : Sta K F0 T F G H r σ) {ds : List D} {vs : List V} (h : RepL K F ds vs) {p : Addr} (hp : H p = none) {Q : Res → Prop} (q : Q (.sh (.tup ds))) :
    ∃ x F', Ex F F' ∧ Sta K F0 T F' G (upd H p (.tup vs)) r σ ∧ ResOk K T F' G (upd H p (.tup vs)) r σ x (.ref p) ∧ Q x := by
  have ef : Ex F (upd F p (.tup vs)) := Ex.new (S.bas.freshF hp).1
  exact ⟨.sh (.tup ds), upd F p (.tup vs), ef, S.newF hp, ⟨p, vs, rfl, .inl (.inl upd_same), RepL.mono ef _ _ h⟩, q⟩
theorem c_tuple {ds : List D} (q : Q (.sh (.tup ds))) : CallW1 X (.type "tuple") (.lst ds) Q := fun F0 T F G H r σ v S h => by
  obtain ⟨p, vs, rfl, k1, k2⟩ := h.lst S.bas.fh
  exact ⟨_, call_tuple_of, p, vs, rfl, .inl ⟨.inl k1, fun l hl => new_tup S k2 hl q⟩⟩
theorem c_sorted {ns : List Int} (q : Q (.fr (.lst ((isort ns).map D.int)))) : CallW1 X (.builtin "sorted") (.lst (ns.map D.int)) Q := fun F0 T F G H r σ v S h => by
  obtain ⟨p, vs, rfl, k1, k2⟩ := h.lst S.bas.fh
  cases k2.ints
  refine ⟨_, cr_sortedI, p, ns, rfl, .inl k1, fun ns' l p1 p2 hl => ?_⟩
  cases isort_of p1 p2
  exact new_lst S (RepL.of_ints _) hl q
theorem inV_ints (i : Int) : ∀ ns : List Int, inV (.int i) (ns.map V.int) = decide (i ∈ ns)
  | [] => by simp [inV]
  | n :: ns => by
    have ih := inV_ints i ns
    unfold inV at ih ⊢
    rw [List.map_cons, List.any_cons, ih]
    have e1 : eqV (.int n) (.int i) = decide (i = n) := by
      show (n == i) = decide (i = n)
      by_cases h : n = i
      · subst h; simp
      · have h2 : ¬ i = n := fun z => h z.symm
        simp [h, h2]
    rw [e1]
    by_cases h : i = n
    · subst h; simp
    · simp [h]
theorem flat_ints (ns : List Int) : (ns.map V.int).all flatV = true := by
  induction ns with
  | nil => rfl
  | cons n ns ih => rw [List.map_cons, List.all_cons, ih]; rfl
theorem opw_in {i : Int} {ns : List Int} (q : Q (.sh (.bl (decide (i ∈ ns))))) : OpW X (compareOp .In) (.int i) (.lst (ns.map D.int)) Q :=
  opw_flat (d := .bl (decide (i ∈ ns))) (v := .bl (decide (i ∈ ns))) (fun _ _ => rfl) (fun F H va vb ex h1 h2 => by
    obtain ⟨p, vs, rfl, k1, k2⟩ := h2.lst ex
    cases h1.int
    cases k2.ints
    exact ⟨_, op_in_seq, fun P hp => ⟨p, _, rfl, .inl (.inl k1), rfl, flat_ints ns, by rw [if_neg Bool.false_ne_true, inV_ints]; exact hp⟩⟩) q
theorem opw_inT {i : Int} {ns : List Int} (q : Q (.sh (.bl (decide (i ∈ ns))))) : OpW X (compareOp .In) (.int i) (.tup (ns.map D.int)) Q :=
  opw_flat (d := .bl (decide (i ∈ ns))) (v := .bl (decide (i ∈ ns))) (fun _ _ => rfl) (fun F H va vb ex h1 h2 => by
    obtain ⟨p, vs, rfl, k1, k2⟩ := h2.tup ex
    cases h1.int
    cases k2.ints
    exact ⟨_, op_in_seq, fun P hp => ⟨p, _, rfl, .inr k1, rfl, flat_ints ns, by rw [if_neg Bool.false_ne_true, inV_ints]; exact hp⟩⟩) q
theorem opw_ninT {i : Int} {ns : List Int} (q : Q (.sh (.bl (!decide (i ∈ ns))))) : OpW X (compareOp .NotIn) (.int i) (.tup (ns.map D.int)) Q :=
  opw_flat (d := .bl (!decide (i ∈ ns))) (v := .bl (!decide (i ∈ ns))) (fun _ _ => rfl) (fun F H va vb ex h1 h2 => by
    obtain ⟨p, vs, rfl, k1, k2⟩ := h2.tup ex
    cases h1.int
    cases k2.ints
    exact ⟨_, op_notIn_seq, fun P hp => ⟨p, _, rfl, .inr k1, rfl, flat_ints ns, by rw [if_pos rfl, inV_ints]; exact hp⟩⟩) q
def cutD (xs : List D) (lo hi : Option Int) : List D := (xs.drop (HT.sIx xs.length 0 lo)).take (HT.sIx xs.length xs.length hi - HT.sIx xs.length 0 lo)
theorem cut_rep {K : PySem.W.Frag} {F : Hp} {ds : List D} {vs : List V} (h : RepL K F ds vs) (lo hi : Option Int) : RepL K F (cutD ds lo hi) (cutV vs lo hi) := by
  unfold cutD cutV
  rw [h.length]
  exact (h.drop _).take _
def RunO (X : Cy) (oe : Option Expr) : TO := fun σ H Q => ∀ (pins : List (Addr × Obj)) (s : Shared), Inv X pins σ H s → wpAny (model X.prog X.w) X.A (evalPart oe X.env) (fun u s' => ∃ o H', Inv X pins σ H' s' ∧ IsPart u o ∧ Q o H') X.xe s
theorem poR {oe : Option Expr} : PO X oe (RunO X oe) := ⟨fun pins s _ _ _ I h => h pins s I⟩
def WO (X : Cy) (oe : Option Expr) (r : Env2) (G : GD) (Q : Option Int → Env2 → GD → Prop) : Prop :=
  ∀ (F0 T F H : Hp) (σ : L2.St), Lk X F0 T → Sta X.K F0 T F G H r σ → RunO X oe σ H (fun o H' => ∃ r' G' F', Ex F F' ∧ Sta X.K F0 T F' G' H' r' σ ∧ Q o r' G')
theorem RunO.mono {oe : Option Expr} {σ : L2.St} {H : Hp} {Q Q' : Option Int → Hp → Prop} (h : RunO X oe σ H Q) (k : ∀ v H', Q v H' → Q' v H') : RunO X oe σ H Q' := fun pins s I =>
  wpAny_mono (h pins s I) (fun _ _ ⟨o, H', I', p, q⟩ => ⟨o, H', I', p, k _ H' q⟩) fun _ _ x => x
theorem wo_none {Q : Option Int → Env2 → GD → Prop} (q : Q none r G) : WO X none r G Q := fun F0 T F H σ lk S pins s I => po_none.run pins s σ H _ I ⟨r, G, F, Ex.refl _, S, q⟩
theorem wo_some {Q : Option Int → Env2 → GD → Prop} (h : WE X e r G fun x r1 G1 => ∃ i, vw r1 x = some (.int i) ∧ Q (some i) r1 G1) : WO X (some e) r G Q := fun F0 T F H σ lk S pins s I =>
  (po_some peR).run pins s σ H _ I ((h F0 T F H σ lk S).mono fun v H1 ⟨x, r1, G1, F1, e1, S1, k1, i, q1, q2⟩ => ⟨i, (S1.view k1 q1).int, r1, G1, F1, e1, S1, q2⟩)
def SlW (X : Cy) (d : D) (lo hi : Option Int) (Q : Res → Prop) : Prop :=
  ∀ (F0 T F : Hp) (G : GD) (H : Hp) (r : Env2) (σ : L2.St) (v : V), Sta X.K F0 T F G H r σ → Vw X.K F H d v →
    ∃ rr, L2.SlR X rr ∧ rr v lo hi H (fun v' H' => ∃ x F', Ex F F' ∧ Sta X.K F0 T F' G H' r σ ∧ ResOk X.K T F' G H' r σ x v' ∧ Q x)
def slU (X : Cy) : V → Option Int → Option Int → Hp → VK → Prop := fun x lo hi H Q => ∃ rr, L2.SlR X rr ∧ rr x lo hi H Q
theorem SlR.post {rr : V → Option Int → Option Int → Hp → VK → Prop} (h : L2.SlR X rr) (P : VK) : L2.SlR X (fun x lo hi H Q' => rr x lo hi H P ∧ ∀ v H', P v H' → Q' v H') := fun pins s σ H x v vl vu lo hi sl Q' I rx hs pl pu ⟨q, m⟩ => by
  obtain ⟨T, id, h1, h2, h3⟩ := h pins s σ H x v vl vu lo hi sl P I rx hs pl pu q
  exact ⟨T, id, h1, h2, wpAny_mono h3 (fun _ _ ⟨v, H', I', rl, q⟩ => ⟨v, H', I', rl, m v H' q⟩) fun _ _ x => x⟩
theorem slU_ok : L2.SlR X (slU X) := fun pins s σ H x v vl vu lo hi sl Q I rx hs pl pu ⟨rr, h1, h2⟩ => h1 pins s σ H x v vl vu lo hi sl Q I rx hs pl pu h2
theorem we_slice {lo hi : Option Expr} {p2 : Pos} {Q : Res → Env2 → GD → Prop} (h : WE X a r G fun x r1 G1 => WO X lo r1 G1 fun l r2 G2 => WO X hi r2 G2 fun u r3 G3 => ∃ d, VwR r3 G3 x d ∧ SlW X d l u fun z => Q z r3 G3) :
    WE X (.Subscript a (.Slice lo hi none p2) pos) r G Q := fun F0 T F H σ lk S => Run.of (pe_slice slU_ok peR poR poR) (by
  refine (h F0 T F H σ lk S).mono fun va H1 ⟨x, r1, G1, F1, e1, S1, k1, h1⟩ => ?_
  obtain ⟨F1', e1', S1', hv⟩ := hold S1 k1
  refine (h1 F0 T F1' H1 σ lk S1').mono fun l H2 ⟨r2, G2, F2, e2, S2, h2⟩ => ?_
  refine (h2 F0 T F2 H2 σ lk S2).mono fun u H3 ⟨r3, G3, F3, e3, S3, d, q1, q2⟩ => ?_
  obtain ⟨rr, h3, h4⟩ := q2 F0 T F3 G3 H3 r3 σ va S3 (hv F3 G3 H3 r3 d (e2.trans e3) S3 q1)
  exact ⟨_, SlR.post h3 _, h4, fun v H' ⟨z, F', m1, m2, m3, m4⟩ => ⟨z, r3, G3, F', (((e1.trans e1').trans e2).trans e3).trans m1, m2, m3, m4⟩⟩)
theorem slw_lst {ds : List D} {lo hi : Option Int} (q : Q (.fr (.lst (cutD ds lo hi)))) : SlW X (.lst ds) lo hi Q := fun F0 T F G H r σ v S h => by
  obtain ⟨p, vs, rfl, k1, k2⟩ := h.lst S.bas.fh
  exact ⟨_, sl_list, p, vs, rfl, .inl k1, fun l hl => new_lst S (cut_rep k2 lo hi) hl q⟩
theorem slw_tup {ds : List D} {lo hi : Option Int} (q : Q (.sh (.tup (cutD ds lo hi)))) : SlW X (.tup ds) lo hi Q := fun F0 T F G H r σ v S h => by
  have rp : Rep X.K F (.tup ds) v := by
    rcases h with h | ⟨_, _, h⟩
    · exact h
    · exact h.elim
  obtain ⟨p, vs, rfl, k1, k2⟩ := h.tup S.bas.fh
  refine ⟨_, sl_tupA, p, vs, rfl, k1, fun hw => ?_, fun _ l hl => new_tup S (cut_rep k2 lo hi) hl q⟩
  have ec : cutD ds lo hi = ds := by
    unfold cutD
    rw [← k2.length, hw.1, hw.2]
    simp [k2.length]
  rw [ec] at q
  exact ⟨.sh (.tup ds), F, Ex.refl _, S, rp, q⟩
end
theorem Bas.base {F0 T F : Hp} {G : GD} {H : Hp} {K : PySem.W.Frag} (B : Bas K F0 T F G H) : Bas K F T F G H := ⟨Ex.refl _, fun _ _ h => .inl h, B.fh, B.gh, B.fg, B.gt, B.tk⟩
theorem Bas.back {F0 T F1 : Hp} {G1 : GD} {H1 F : Hp} {G : GD} {H : Hp} {K : PySem.W.Frag} (B : Bas K F0 T F1 G1 H1) (C : Bas K F1 T F G H) : Bas K F0 T F G H :=
  ⟨B.ff.trans C.ff, fun a o h => (C.ft a o h).elim (fun z => B.ft a o z) .inr, C.fh, C.gh, C.fg, C.gt, C.tk⟩
theorem Sta.base {K : PySem.W.Frag} {F0 T F : Hp} {G : GD} {H : Hp} {r : Env2} {σ : L2.St} (S : Sta K F0 T F G H r σ) : Sta K F T F G H r σ := ⟨S.bas.base, S.len, S.sl, S.ap⟩
theorem Sta.back {K : PySem.W.Frag} {F0 T F1 : Hp} {G1 : GD} {H1 F : Hp} {G : GD} {H : Hp} {r : Env2} {σ : L2.St} (B : Bas K F0 T F1 G1 H1) (S : Sta K F1 T F G H r σ) : Sta K F0 T F G H r σ := ⟨B.back S.bas, S.len, S.sl, S.ap⟩
theorem at_back {K : PySem.W.Frag} {F0 T F1 : Hp} {G1 : GD} {H1 : Hp} (B : Bas K F0 T F1 G1 H1) {Q : Env2 → GD → Prop} {σ : L2.St} {H : Hp} (h : PostN K F1 T Q σ H) : PostN K F0 T Q σ H := by
  obtain ⟨r, G, F, S, q⟩ := h
  exact ⟨r, G, F, S.back B, q⟩
theorem rt_back {K : PySem.W.Frag} {F0 T F1 : Hp} {G1 : GD} {H1 : Hp} (B : Bas K F0 T F1 G1 H1) {Q : Res → GD → Prop} {v : V} {H : Hp} (h : PostR K F1 T Q v H) : PostR K F0 T Q v H := by
  obtain ⟨x, G, F, C, k, q⟩ := h
  exact ⟨x, G, F, B.back C, k, q⟩
def RunG (X : Cx) (tg : Expr) : TG := fun v σ H Q => ∀ (pins : List (Addr × Obj)) (s : Shared) (u : Value), Inv X pins σ H s → RelV v u → wpAny (model X.prog X.w) X.A (assign tg X.env u) (fun _ s' => ∃ σ' H', Inv X pins σ' H' s' ∧ Q σ' H') X.xe s
theorem pgR {X : Cx} {tg : Expr} : PG X tg (RunG X tg) := ⟨fun pins s σ H v u Q I rv h => h pins s u I rv⟩
/-- frozen data goes to a target; σ' differs from σ in the slots is alone -/
def WG (X : Cy) (tg : Expr) (d : D) (r : Env2) (G : GD) (is : List Nat) (Q : Env2 → GD → Prop) : Prop :=
  ∀ (F0 T F H : Hp) (σ : L2.St) (v : V), Lk X F0 T → Sta X.K F0 T F G H r σ → Rep X.K F d v → RunG X tg v σ H (fun σ' H' => wipe σ' is = wipe σ is ∧ ∃ r' G' F', Ex F F' ∧ Sta X.K F0 T F' G' H' r' σ' ∧ Q r' G')
theorem wipe_set {σ : L2.St} {i : Nat} {x : Option V} : ∀ {is : List Nat}, i ∈ is → wipe (σ.set i x) is = wipe σ is
  | [], h => by simp at h
  | j :: is, h => by
    unfold wipe
    by_cases hm : i ∈ is
    · rw [wipe_set hm]
    · have hj : i = j := by
        rcases List.mem_cons.mp h with z | z
        · exact z
        · exact absurd z hm
      subst hj
      have aux : ∀ (is : List Nat), i ∉ is → wipe (σ.set i x) is = (wipe σ is).set i x := by
        intro is
        induction is with
        | nil => intro _; rfl
        | cons k is ih =>
          intro hk
          unfold wipe
          rw [ih (fun z => hk (List.mem_cons_of_mem _ z)), List.set_comm _ _ (fun z => hk (by rw [z]; exact List.mem_cons_self))]
      rw [aux is hm, List.set_set]
section
variable {X : Cy} {e a b c o tg : Expr} {es : List Expr} {st : Stmt} {sts rest body orelse : List Stmt} {r : Env2} {G : GD} {pos p0 : Pos} {D0 : EndsD}
theorem wg_name (i : Nat) {x : Str} {d : D} {is : List Nat} {Q : Env2 → GD → Prop} (hN : X.N.Nodup) (hi : X.N[i]? = some x) (hx : Loc X.env.scope x) (hm : i ∈ is) (hl : i < r.length) (q : Q (r.set i (.sh d)) G) (hf : X.fn x = true ∨ X.env.scope.names.lookup x = some .local := by first | exact .inl rfl | exact .inr rfl | assumption) :
    WG X (.Name x pos) d r G is Q := fun F0 T F H σ v lk S rp pins s u I rv => by
  refine (pg_name hN hi hx hf).run pins s σ H v u _ I rv ⟨wipe_set hm, r.set i (.sh d), G, F, Ex.refl _, S.set hl ⟨v, rfl, rp⟩ (fun d' z => nomatch z), q⟩
theorem fold_wipe : ∀ (ixs : List Nat) (vs : List V) (σ : L2.St) {is : List Nat}, (∀ i ∈ ixs, i ∈ is) → wipe ((ixs.zip vs).foldl (fun s p => s.set p.1 (some p.2)) σ) is = wipe σ is
  | [], _, _, _, _ => by simp
  | _ :: _, [], _, _, _ => by simp
  | i :: ixs, v :: vs, σ, is, h => by
    rw [List.zip_cons_cons, List.foldl_cons, fold_wipe ixs vs _ fun j hj => h j (List.mem_cons_of_mem _ hj)]
    exact wipe_set (h i List.mem_cons_self)
theorem wg_tup {ts : List Expr} {k : Nat} (ixs : List Nat) {ds : List D} {is : List Nat} {Q : Env2 → GD → Prop} (hc : X.calm = true) (hp : All2 (fun t i => PG X t (gName i)) ts ixs) (hst : ∀ t ∈ ts, ∀ us, (assignEach (t :: us) X.env).map (·.2) = assign t X.env :: (assignEach us X.env).map (·.2))
    (hm : ∀ i ∈ ixs, i ∈ is) (hl : ds.length = ixs.length) (hr : ∀ i ∈ ixs, i < r.length) (q : Q (setAll r ixs ds) G) (hn : (assignEach ts X.env).length = ixs.length := by rfl) (hf : (assignEach ts X.env).findIdx? (·.1) = none := by rfl) :
    WG X (.Tuple ts k pos) (.tup ds) r G is Q := fun F0 T F H σ v lk S rp pins s u I rv => by
  obtain ⟨a, vs, rfl, z1, z2⟩ := rp
  refine (pg_tup hc (pgs_run hp hst) hn hf).run pins s σ H _ u _ I rv ⟨a, vs, rfl, S.bas.fh.sqT z1, by rw [z2.length]; exact hl, by rw [z2.length]; exact hl, fold_wipe ixs vs σ hm, _, G, F, Ex.refl _, S.setAll ixs ds vs z2 hl.symm hr, q⟩
/-- a turn of a loop: the item goes to the target, the body runs -/
theorem turn1 {d : D} {v : V} {is : List Nat} {F0 T Fa : Hp} {Ga : GD} {Ha F H : Hp} {σ : L2.St} {I : Env2 → GD → Prop} (lk : Lk X F0 T) (B : Bas X.K F0 T Fa Ga Ha) (S : Sta X.K Fa T F G H r σ) (rp : Rep X.K F d v) (h : WG X tg d r G is fun r1 G1 => WB X body r1 G1 { D0 with nx := I, ct := I, bk := D0.nx }) {P : L2.St → Hp → Prop}
    (hP : ∀ σ' H', PostN X.K Fa T I σ' H' → P σ' H') : RunG X tg v σ H fun σ2 H2 => RunB X body { D0.at X.K F0 T with nx := P, ct := P, bk := (D0.at X.K F0 T).nx } σ2 H2 := fun pins s u J rv => by
  refine wpAny_mono (h Fa T F H σ v (lk.base B) S rp pins s u J rv) (fun _ s' ⟨σ', H', J', _, r', G', F', e', S', q⟩ => ⟨σ', H', J', ?_⟩) fun _ _ x => x
  exact (q Fa T F' H' σ' (lk.base B) S').mono hP (fun v H z => rt_back B z) (fun σ H z => at_back B z) hP
/-- J yields the data ds, while what is frozen at Fa stays -/
def ItD (K : PySem.W.Frag) (J : It) (Fa : Hp) (ds : List D) : Prop := ∀ (F H : Hp), Ex Fa F → Ex F H → J.stop ds.length H ∧ ∀ (i : Nat) (d : D), ds[i]? = some d → J.go i H ∧ ∀ x H', J.yld i H x H' →
  (H' = H ∧ Rep K F d x) ∨ ∃ p o, H p = none ∧ H' = upd H p o ∧ x = .ref p ∧ Rep K (upd F p o) d (.ref p)
theorem ItD.mono {K : PySem.W.Frag} {J : It} {F F' : Hp} {ds : List D} (e : Ex F F') (h : ItD K J F ds) : ItD K J F' ds := fun F2 H e1 e2 => h F2 H (e.trans e1) e2
/-- a yielded item, over a state -/
theorem ItD.item {K : PySem.W.Frag} {J : It} {Fa F0 T F : Hp} {G : GD} {H H' : Hp} {r : Env2} {σ : L2.St} {ds : List D} {i : Nat} {d : D} {x : V} (h : ItD K J Fa ds) (ea : Ex Fa F) (S : Sta K F0 T F G H r σ) (hi : ds[i]? = some d) (y : J.yld i H x H') :
    ∃ F', Ex F F' ∧ Sta K F0 T F' G H' r σ ∧ Rep K F' d x := by
  obtain ⟨_, h2⟩ := h F H ea S.bas.fh
  rcases (h2 i d hi).2 x H' y with ⟨rfl, rp⟩ | ⟨p, o, hp, rfl, rfl, rp⟩
  · exact ⟨F, Ex.refl _, S, rp⟩
  · exact ⟨upd F p o, Ex.new (S.bas.freshF hp).1, S.newF hp, rp⟩
def RunI (X : Cx) (tg e : Expr) : TI := fun σ H R => ∀ (pins : List (Addr × Obj)) (s : Shared), Inv X pins σ H s → wpAny (model X.prog X.w) X.A (eval e X.env) (fun v s1 => wpAny (model X.prog X.w) X.A (pyIter v) (PIE X pins σ tg R) X.xe s1) X.xe s
theorem piR {X : Cx} {tg e : Expr} : PI X tg e (RunI X tg e) := ⟨fun pins s _ _ _ I h => h pins s I⟩
theorem RunI.of {X : Cx} {tg e : Expr} {wi : TI} {σ : L2.St} {H : Hp} {R : It → Hp → Prop} (h : PI X tg e wi) (q : wi σ H R) : RunI X tg e σ H R := fun pins s I => h.run pins s σ H R I q
theorem RunI.mono {X : Cx} {tg e : Expr} {σ : L2.St} {H : Hp} {R R' : It → Hp → Prop} (h : RunI X tg e σ H R) (k : ∀ J H', R J H' → R' J H') : RunI X tg e σ H R' := fun pins s I =>
  wpAny_mono (h pins s I) (fun _ _ q => wpAny_mono q (fun _ _ ⟨it, fp, tn, J, H', a, b, c, d, e, f⟩ => ⟨it, fp, tn, J, H', a, b, c, d, e, k _ _ f⟩) fun _ _ x => x) fun _ _ x => x
/-- the iterable e yields data -/
def WI (X : Cy) (tg e : Expr) (r : Env2) (G : GD) (Q : List D → Env2 → GD → Prop) : Prop :=
  ∀ (F0 T F H : Hp) (σ : L2.St), Lk X F0 T → Sta X.K F0 T F G H r σ → RunI X tg e σ H fun J H' => ∃ ds r' G' F', Ex F F' ∧ Sta X.K F0 T F' G' H' r' σ ∧ ItD X.K J F' ds ∧ Q ds r' G'
theorem WI.mono {Q Q' : List D → Env2 → GD → Prop} (h : WI X tg e r G Q) (k : ∀ x r' G', Q x r' G' → Q' x r' G') : WI X tg e r G Q' := fun F0 T F H σ lk S =>
  (h F0 T F H σ lk S).mono fun _ _ ⟨x, r', G', F', a, b, c, q⟩ => ⟨x, r', G', F', a, b, c, k _ _ _ q⟩
theorem wi_lst {Q : List D → Env2 → GD → Prop} (h : WE X e r G fun x r1 G1 => ∃ ds r2, fz r1 x = some (.lst ds, r2) ∧ (ds.length ≤ LIM → Q ds r2 G1)) : WI X tg e r G Q := fun F0 T F H σ lk S =>
  RunI.of (pi_list peR) ((h F0 T F H σ lk S).bl.mono fun v H1 ⟨bl, x, r1, G1, F1, e1, S1, k1, ds, r2, q1, q2⟩ => by
    obtain ⟨Fa, e2, Sa, rp⟩ := S1.fz k1 q1
    obtain ⟨a, vs, rfl, z1, z2⟩ := rp
    have hlim : ds.length ≤ LIM := by rw [← z2.length]; exact bl.1 a vs (.inl (Sa.bas.fh.rd z1))
    refine ⟨a, rfl, ⟨vs, .inl (Sa.bas.fh.rd z1)⟩, ds, r2, G1, Fa, e1.trans e2, Sa, fun F H ea eh => ⟨⟨vs, .inl (eh.rd (ea.rd z1)), by rw [z2.length]; exact Nat.le_refl _⟩, fun i d hi => ?_⟩, q2 hlim⟩
    obtain ⟨v, h1, h2⟩ := z2.get hi
    exact ⟨⟨vs, v, .inl (eh.rd (ea.rd z1)), h1⟩, fun x H' ⟨y1, y2⟩ => .inl ⟨y1, by
      have := y2 vs (.inl (eh.rd (ea.rd z1)))
      rw [h1] at this; cases this
      exact Rep.mono ea _ _ h2⟩⟩)
theorem wi_tup {Q : List D → Env2 → GD → Prop} (h : WE X e r G fun x r1 G1 => ∃ ds r2, fz r1 x = some (.tup ds, r2) ∧ (ds.length ≤ LIM → Q ds r2 G1)) : WI X tg e r G Q := fun F0 T F H σ lk S =>
  RunI.of (pi_tup peR) ((h F0 T F H σ lk S).bl.mono fun v H1 ⟨bl, x, r1, G1, F1, e1, S1, k1, ds, r2, q1, q2⟩ => by
    obtain ⟨Fa, e2, Sa, rp⟩ := S1.fz k1 q1
    obtain ⟨a, vs, rfl, z1, z2⟩ := rp
    have hlim : ds.length ≤ LIM := by rw [← z2.length]; exact bl.2.1 a vs (Sa.bas.fh.sqT z1)
    refine ⟨a, rfl, ⟨vs, Sa.bas.fh.sqT z1⟩, ds, r2, G1, Fa, e1.trans e2, Sa, fun F H ea eh => ⟨⟨vs, eh.sqT (ea.sqT z1), by rw [z2.length]; exact Nat.le_refl _⟩, fun i d hi => ?_⟩, q2 hlim⟩
    obtain ⟨v, h1, h2⟩ := z2.get hi
    exact ⟨⟨vs, v, eh.sqT (ea.sqT z1), h1⟩, fun x H' ⟨y1, y2⟩ => .inl ⟨y1, by
      have := y2 vs (eh.sqT (ea.sqT z1))
      rw [h1] at this; cases this
      exact Rep.mono ea _ _ h2⟩⟩)
def rgI (a b : Int) : List Int := (List.range (b - a).toNat).map fun i => a + (i : Nat)
theorem rgI_length (a b : Int) : (rgI a b).length = (b - a).toNat := by unfold rgI; rw [List.length_map, List.length_range]
theorem rgI_get {a b : Int} {i : Nat} {x : Int} (h : (rgI a b)[i]? = some x) : i < (b - a).toNat ∧ x = a + (i : Nat) := by
  unfold rgI at h
  rw [List.getElem?_map] at h
  cases q : (List.range (b - a).toNat)[i]? with
  | none => rw [q] at h; cases h
  | some j =>
    rw [q] at h
    obtain ⟨z1, z2⟩ := List.getElem?_eq_some_iff.mp q
    rw [List.length_range] at z1
    rw [List.getElem_range] at z2
    subst z2
    exact ⟨z1, by simpa using h.symm⟩
theorem itd_range {K : PySem.W.Frag} {Fa : Hp} {lo hi : Int} {n : Nat} (hn : n = (hi - lo).toNat) : ItD K (Itr lo n) Fa ((rgI lo hi).map D.int) := fun F H ea eh =>
  ⟨by rw [List.length_map, rgI_length, ← hn]; exact Nat.le_refl _, fun i d hd => by
    rw [List.getElem?_map] at hd
    cases q : (rgI lo hi)[i]? with
    | none => rw [q] at hd; cases hd
    | some x =>
      rw [q] at hd
      obtain ⟨z1, rfl⟩ := rgI_get q
      cases hd
      exact ⟨by rw [hn]; exact z1, fun y H' ⟨y1, y2⟩ => .inl ⟨y1, y2⟩⟩⟩
abbrev RG (n : Int) : Prop := -(2 ^ 62) ≤ n ∧ n < 2 ^ 62
theorem wi_rng1 {Q : List D → Env2 → GD → Prop} (hg : Gl X "range") (hm : X.mg "range" = none)
    (h : WE X a r G fun x r1 G1 => ∃ n, vw r1 x = some (.int n) ∧ RG n ∧ Q ((rgI 0 n).map D.int) r1 G1) (hst : starEach [a] X.env = [(false, eval a X.env)] := by rfl) : WI X tg (.Call (.Name "range" p0) [a] [] pos) r G Q := fun F0 T F H σ lk S =>
  RunI.of (pi_range1 hg hm (pa_cons peR pa_nil hst) hst) ((h F0 T F H σ lk S).mono fun v H1 ⟨x, r1, G1, F1, e1, S1, k1, n, q1, hn, q2⟩ =>
    ⟨n, by rw [(S1.view k1 q1).int], hn.1, hn.2, _, r1, G1, F1, e1, S1, itd_range (by rw [Int.sub_zero]), q2⟩)
theorem wi_rng2 {Q : List D → Env2 → GD → Prop} (hg : Gl X "range") (hm : X.mg "range" = none)
    (h : WE X a r G fun x r1 G1 => WE X b r1 G1 fun y r2 G2 => ∃ lo n, vw r2 x = some (.int lo) ∧ vw r2 y = some (.int n) ∧ RG lo ∧ RG n ∧ Q ((rgI lo n).map D.int) r2 G2)
    (hst : starEach [a, b] X.env = [(false, eval a X.env), (false, eval b X.env)] := by rfl) (hst2 : starEach [b] X.env = [(false, eval b X.env)] := by rfl) : WI X tg (.Call (.Name "range" p0) [a, b] [] pos) r G Q := fun F0 T F H σ lk S =>
  RunI.of (pi_range2 hg hm (pa_cons peR (pa_cons peR pa_nil (by rw [hst2]; rfl)) (by rw [hst, hst2])) hst hst2) ((h F0 T F H σ lk S).mono fun v H1 ⟨x, r1, G1, F1, e1, S1, k1, h1⟩ => by
    obtain ⟨F1', e1', S1', hv⟩ := hold S1 k1
    refine (h1 F0 T F1' H1 σ lk S1').mono fun v2 H2 ⟨y, r2, G2, F2, e2, S2, k2, lo, n, q1, q2, hl, hn, q3⟩ => ?_
    exact ⟨lo, n, by rw [(hv F2 G2 H2 r2 _ e2 S2 (.inl q1)).int, (S2.view k2 q2).int], ⟨hl.1, hl.2, hn.1, hn.2⟩, _, r2, G2, F2, (e1.trans e1').trans e2, S2, itd_range rfl, q3⟩)
theorem ws_for {is : List Nat} (hp : PassesOwn (model X.prog X.w) X.A X.env X.xe) (hc : X.calm = true)
    (h : WI X tg e r G fun ds r2 G1 => ∃ I : Nat → Env2 → GD → Prop, I 0 r2 G1 ∧ (∀ (k : Nat) (d : D) (r3 : Env2) (G3 : GD), ds[k]? = some d → I k r3 G3 → WG X tg d r3 G3 is fun r4 G4 => WB X body r4 G4 { D0 with nx := I (k + 1), ct := I (k + 1), bk := D0.nx }) ∧
      ∀ r3 G3, I ds.length r3 G3 → D0.nx r3 G3) (hs : ∀ x, foldedSetIterable e X.env x = pure x := by intro _; rfl) : WS X (.For tg e body [] pos) r G D0 := fun F0 T F H σ lk S =>
  RunS.of (ps_for hp hc piR pgR pbR hs) ((h F0 T F H σ lk S).mono fun J H1 ⟨ds, r2, G1, Fa, e1, Sa, hJ, I, i0, it, ie⟩ => by
    refine ⟨fun i m σ' H' => m = ds.length - i ∧ i ≤ ds.length ∧ PostN X.K Fa T (I i) σ' H', ⟨ds.length, by simp, Nat.zero_le _, r2, G1, Fa, Sa.base, i0⟩, ?_⟩
    rintro i m σ' H' ⟨rfl, hi, r', G', F', S', q'⟩
    obtain ⟨j1, j2⟩ := hJ F' H' S'.bas.ff S'.bas.fh
    by_cases hlt : i < ds.length
    · obtain ⟨j3, _⟩ := j2 i ds[i] (List.getElem?_eq_getElem hlt)
      refine .inr ⟨j3, fun σ' H' => PostN X.K Fa T (I (i + 1)) σ' H', fun σ2 H2 p2 => ⟨ds.length - (i + 1), by omega, rfl, hlt, p2⟩, fun x H2 y => ?_⟩
      obtain ⟨F2, ef, S2, rp⟩ := hJ.item S'.bas.ff S' (List.getElem?_eq_getElem hlt) y
      exact turn1 lk Sa.bas S2 rp (it i ds[i] r' G' (List.getElem?_eq_getElem hlt) q') fun _ _ z => z
    · have e : i = ds.length := by omega
      subst e
      exact .inl ⟨j1, at_back Sa.bas ⟨r', G', F', S', ie r' G' q'⟩⟩)
abbrev FSp := List D → GD → (Res → GD → Prop) → (Exn → GD → Prop) → Prop
/-- what others hold at a call -/
def Tof (G : GD) (H : Hp) : Hp := fun a => match G a with
  | none => H a
  | some _ => none
theorem Tof_none {G : GD} {H : Hp} {a : Addr} (h : G a = none) : Tof G H a = H a := by unfold Tof; rw [h]
theorem Tof_some {G : GD} {H : Hp} {a : Addr} {o : D} (h : G a = some o) : Tof G H a = none := by unfold Tof; rw [h]
/-- a def's promise over data -/
def spD (K : PySem.W.Frag) (f : FSp) : Sp := fun vs H Q E => ∃ (F : Hp) (G : GD) (ds : List D) (post : Res → GD → Prop) (px : Exn → GD → Prop), Ex F H ∧ (∀ a d, G a = some d → Own K F H a d) ∧ (∀ a o, G a = some o → F a = none) ∧ RepL K F ds vs ∧ f ds G post px ∧
  (∀ x G' v H' F', post x G' → Bas K F (Tof G H) F' G' H' → RtOk K (Tof G H) F' G' H' x v → Q v H') ∧ ∀ x cls d G' H' F', px x G' → Bas K F (Tof G H) F' G' H' → ExOk K F' cls d x → E cls d H'
/-- behind a call the caller's state stands -/
theorem Sta.after {K : PySem.W.Frag} {F0 T F : Hp} {G : GD} {H F' : Hp} {G' : GD} {H' : Hp} {r : Env2} {σ : L2.St} (S : Sta K F0 T F G H r σ) (B : Bas K F (Tof G H) F' G' H') : Sta K F0 T F' G' H' r σ := by
  have tt : ∀ a o, T a = some o → Tof G H a = some o := fun a o h => by
    have hg : G a = none := by
      cases e : G a with
      | none => rfl
      | some u => rw [S.bas.gt a u e] at h; cases h
    rw [Tof_none hg]
    exact S.bas.tk a o h
  refine S.grow ⟨S.bas.ff.trans B.ff, fun a o h => ?_, B.fh, B.gh, B.fg, fun a o h => ?_, fun a o h => B.tk a o (tt a o h)⟩ B.ff fun p h1 h2 h3 ⟨u, hu⟩ => ?_
  · rcases B.ft a o h with z | z
    · exact S.bas.ft a o z
    · cases e : T a with
      | none => exact .inr rfl
      | some u => rw [tt a u e] at z; cases z
  · cases e : T a with
    | none => rfl
    | some u =>
      have z := B.gt a o h
      rw [tt a u e] at z; cases z
  · have hT : Tof G H p = some u := by rw [Tof_none h2]; exact hu
    refine ⟨fun o ho => by rw [hu] at ho; cases ho; exact B.tk p u hT, ?_, ?_, h3⟩
    · cases e : F' p with
      | none => rfl
      | some w =>
        rcases B.ft p w e with z | z
        · rw [h1] at z; cases z
        · rw [hT] at z; cases z
    · cases e : G' p with
      | none => rfl
      | some w => have z := B.gt p w e; rw [hT] at z; cases z
theorem ResOk.after {K : PySem.W.Frag} {F0 T F : Hp} {G : GD} {H F' : Hp} {G' : GD} {H' : Hp} {r : Env2} {σ : L2.St} {x : Res} {v : V} (S : Sta K F0 T F G H r σ) (B : Bas K F (Tof G H) F' G' H') (h : RtOk K (Tof G H) F' G' H' x v) : ResOk K T F' G' H' r σ x v := by
  cases x with
  | sh d => exact h
  | pk i => exact h.elim
  | fr d =>
    obtain ⟨p, rfl, h2, h3, h4, h5⟩ := h
    refine ⟨p, rfl, h2, h3, h4, ?_, fun i e he z => ?_⟩
    · cases e : T p with
      | none => rfl
      | some u =>
        have hg : G p = none := by
          cases eg : G p with
          | none => rfl
          | some w => rw [S.bas.gt p w eg] at e; cases e
        rw [Tof_none hg, S.bas.tk p u e] at h5; cases h5
    · obtain ⟨q, z1, z2, z3, z4, z5⟩ := S.ownS he
      rw [z] at z1; cases z1
      obtain ⟨o, ho⟩ := z2.there
      rw [Tof_none z4, ho] at h5; cases h5
/-- a promise met from a state -/
theorem spD_of {F0 T F F1 H : Hp} {σ : L2.St} {sp : FSp} {ds : List D} {vs : List V} {Q : Res → Env2 → GD → Prop} (lk : Lk X F0 T) (S : Sta X.K F0 T F1 G H r σ) (e1 : Ex F F1) (ha : RepL X.K F1 ds vs) (h : sp ds G (fun z G2 => Q z r G2) (fun x G2 => X.QX x r G2)) : spD X.K sp vs H (PostE X.K F0 T F σ Q) (L2.WE X.WX σ) :=
  ⟨F1, G, ds, _, _, S.bas.fh, S.bas.gh, S.bas.fg, ha, h, fun x G' v H' F' hp B rt => ⟨x, r, G', F', e1.trans B.ff, S.after B, ResOk.after S B rt, hp⟩, fun x cls d G' H' F' hp B ex => ⟨r, G', F', x, lk.sta (S.after B), ex, hp⟩⟩
theorem we_call {f : Addr} {fd : FuncData} {ps : List Str} {sp : FSp} {k : Nat} {x : Str} {Q : Res → Env2 → GD → Prop} (tk : X.Tk) (Fo : FnOk X.prog X.w X.K X.mg X.base (CX X.prog X.w) k f fd ps (spD X.K sp)) (hr : Room k X.A) (hg : Gl X x) (hm : X.mg x = some (.ref f)) (hk : PySem.W.keepIn X.K (.ref f) = true) (hb : Binds X.K fd ps [])
    (h : WA X (e :: es) r G fun ds r1 G1 => sp ds G1 (fun z G2 => Q z r1 G2) (fun x G2 => X.QX x r1 G2))
    (hdb : (x == ("__debug__" : Str)) = false := by decide) (he : starEach (e :: es) X.env = (false, eval e X.env) :: starEach es X.env := by rfl) (hpl : (backTo pos (starEach es X.env)).any (·.1) = false := by rfl) : WE X (.Call (.Name x p0) (e :: es) [] pos) r G Q := fun F0 T F H σ lk S =>
  Run.of (pe_callS Fo hr hg hm hk hb (fun σ => passAt tk σ) paR hdb he hpl) ((h F0 T F H σ lk S).mono fun vs H1 ⟨ds, r1, G1, F1, e1, S1, k1, q⟩ => spD_of lk S1 e1 k1 q)
end
def startD (N : List Str) (ds : List D) : Env2 := ds.map .sh ++ List.replicate (N.length - ds.length) .no
theorem sta_start {K : PySem.W.Frag} {F : Hp} {G : GD} {H : Hp} {N : List Str} {ds : List D} {vs : List V} (hl : ds.length ≤ N.length) (e1 : Ex F H) (e2 : ∀ a d, G a = some d → Own K F H a d) (e3 : ∀ a o, G a = some o → F a = none) (h : RepL K F ds vs) : Sta K F (Tof G H) F G H (startD N ds) (L2.start N vs) := by
  have hv := h.length
  refine ⟨⟨Ex.refl _, fun _ _ z => .inl z, e1, e2, e3, fun a o z => Tof_some z, fun a o z => ?_⟩, ?_, fun i s z => ?_, fun i j d e _ z => ?_⟩
  · unfold Tof at z
    split at z
    · exact z
    · cases z
  · unfold startD L2.start
    simp only [List.length_append, List.length_map, List.length_replicate, hv]
  · unfold startD at z
    by_cases hi : i < ds.length
    · rw [List.getElem?_append_left (by simpa using hi), List.getElem?_map, List.getElem?_eq_getElem hi] at z
      cases z
      obtain ⟨v, q1, q2⟩ := h.get (List.getElem?_eq_getElem hi)
      refine ⟨v, ?_, q2⟩
      unfold L2.start
      rw [List.getElem?_append_left (by rw [List.length_map, hv]; exact hi), List.getElem?_map, q1]
      rfl
    · rw [List.getElem?_append_right (by simpa using hi), List.getElem?_replicate] at z
      split at z
      · cases z; trivial
      · cases z
  · exfalso
    unfold startD at z
    by_cases hi : i < ds.length
    · rw [List.getElem?_append_left (by simpa using hi), List.getElem?_map, List.getElem?_eq_getElem hi] at z
      cases z
    · rw [List.getElem?_append_right (by simpa using hi), List.getElem?_replicate] at z
      split at z
      · cases z
      · cases z
section
variable {P : Program} {w : World} {K : PySem.W.Frag} {mg : Str → Option Value} {base : Heap}
/-- the context of a def's body -/
def cyOf (P : Program) (w : World) (K : PySem.W.Frag) (mg : Str → Option Value) (base : Heap) (N : List Str) (qual : Str) (scope : Scope) (f : Addr) (cd : Value) (A : Around) (outer : List Env) (s : Shared) (H : Hp) (E : XK) (F T : Hp) (px : Exn → GD → Prop) : Cy :=
  { L2.cxOf (L2.CX P w) P w K mg base N qual scope f cd A outer s H E with F0 := F, T := T, QX := fun x _ G => px x G }
theorem def_ok {x qual : Str} {st : Stmt} {f : Addr} {fd : FuncData} {N ps : List Str} {k : Nat} {sp : FSp} (Fo : Fun K x qual st f fd) (S : FnScope N ps (defScope st)) (len : ∀ ds G post px, sp ds G post px → ds.length = ps.length)
    (hbody : ∀ (cdv : Value) (A : Around) (outer : List Env) (s : Shared) (H : Hp) (E : XK) (F T : Hp), Room k (A.deeper (envOfC qual (defScope st) s.heap.objs.size f cdv)) → ∀ (ds : List D) (G : GD) (post : Res → GD → Prop) (px : Exn → GD → Prop), sp ds G post px →
      (cyOf P w K mg base N qual (defScope st) f cdv A outer s H E F T px).Tk → PassesOwn (model P w) (cyOf P w K mg base N qual (defScope st) f cdv A outer s H E F T px).A (cyOf P w K mg base N qual (defScope st) f cdv A outer s H E F T px).env (cyOf P w K mg base N qual (defScope st) f cdv A outer s H E F T px).xe →
      WB (cyOf P w K mg base N qual (defScope st) f cdv A outer s H E F T px) (defBody st) (startD N ds) G { nx := fun _ G' => post (.sh .non) G', rt := post }) : FnOk P w K mg base (L2.CX P w) (k + 1) f fd ps (spD K sp) := by
  refine Fo.okX S (fun vs H Q E h => ?_) (fun cdv A outer s H vs Q E hr h => ?_)
  · obtain ⟨F, G, ds, post, px, _, _, _, rp, hf, _⟩ := h
    rw [rp.length, len ds G post px hf]
  · obtain ⟨F, G, ds, post, px, e1, e2, e3, rp, hf, hq, hx⟩ := h
    have hl : ds.length ≤ N.length := by
      rw [len ds G post px hf]
      have := congrArg List.length S.pre
      rw [List.length_take] at this
      omega
    refine ⟨RunB _ (defBody st), pbR, ?_⟩
    have tk : (cyOf P w K mg base N qual (defScope st) f cdv A outer s H E F (Tof G H) px).Tk := (takes_of (E := E) rfl rfl rfl rfl).imp fun cls d σ H' ⟨r, G', F', x, S', ex, q⟩ => hx x cls d G' H' F' q S'.bas ex
    refine (hbody cdv A outer s H E F (Tof G H) hr ds G post px hf tk (passes_of rfl) F (Tof G H) F H (L2.start N vs) ⟨Ex.refl _, Ex.refl _, fun _ _ z => .inl z⟩ (sta_start hl e1 e2 e3 rp)).mono (fun σ' H' ⟨r', G', F', S', q⟩ => ?_) (fun v H' ⟨x, G', F', B, rt, q⟩ => hq x G' v H' F' q B rt) (fun _ _ ⟨_, _, _, _, q⟩ => q) (fun _ _ ⟨_, _, _, _, q⟩ => q)
    exact hq (.sh .non) G' .non H' F' q S'.bas rfl
end
theorem Sta.mut {K : PySem.W.Frag} {F0 T F : Hp} {G : GD} {H : Hp} {r : Env2} {σ : L2.St} (S : Sta K F0 T F G H r σ) {i : Nat} {d0 : D} (h : r[i]? = some (.own d0)) :
    ∃ p, σ[i]? = some (some (.ref p)) ∧ Own K F H p d0 ∧ F p = none ∧ ∀ (o' : HO) (d' : D), Own K F (upd H p o') p d' → Sta K F0 T F G (upd H p o') (r.set i (.own d')) σ := by
  obtain ⟨p, h1, h2, h3, h4, h5⟩ := S.ownS h
  have hi : i < r.length := (List.getElem?_eq_some_iff.mp h).1
  refine ⟨p, h1, h2, h3, fun o' d' ho => ⟨S.bas.put h3 h4 h5, by rw [List.length_set]; exact S.len, fun j s e => ?_, fun j k d e hjk ej ek => ?_⟩⟩
  · by_cases hj : i = j
    · subst hj
      rw [List.getElem?_set_self hi] at e
      cases e
      exact ⟨p, h1, ho, h3, h4, h5⟩
    · rw [List.getElem?_set_ne hj] at e
      have q := S.sl j s e
      cases s with
      | no => trivial
      | sh d => exact q
      | own d =>
        obtain ⟨p', q1, q2, q3, q4, q5⟩ := q
        have hpp : p' ≠ p := fun z => by
          subst z
          exact S.ap i j d0 d hj h e (h1.trans q1.symm)
        exact ⟨p', q1, q2.mono (Ex.refl _) fun u hu => by rw [upd_ne hpp]; exact hu, q3, q4, q5⟩
  · have own : ∀ (m : Nat) (x : D), (r.set i (.own d'))[m]? = some (.own x) → ∃ y, r[m]? = some (.own y) := fun m x hm => by
      by_cases hm2 : i = m
      · subst hm2; exact ⟨d0, h⟩
      · rw [List.getElem?_set_ne hm2] at hm; exact ⟨x, hm⟩
    obtain ⟨y1, hy1⟩ := own j d ej
    obtain ⟨y2, hy2⟩ := own k e ek
    exact S.ap j k y1 y2 hjk hy1 hy2
section
variable {X : Cy} {e e2 a b c o tg : Expr} {es : List Expr} {st : Stmt} {sts rest body orelse : List Stmt} {r : Env2} {G : GD} {pos apos cpos p0 : Pos} {D0 : EndsD}
/-- what a method does to an own list: the answer, the new content -/
def MutW (X : Cy) (id : String) (ds args : List D) (Kt : D → List D → Prop) : Prop :=
  ∀ (F H : Hp) (p : Addr) (vs us : List V), H p = some (.lst vs) → F p = none → Ex F H → RepL X.K F ds vs → RepL X.K F args us →
    ∃ rr, MtR X id rr ∧ rr (.ref p) us H (fun v' H' => ∃ vs' res ds', H' = upd H p (.lst vs') ∧ Rep X.K F res v' ∧ RepL X.K F ds' vs' ∧ Kt res ds')
def mtU (X : Cy) (id : String) : V → List V → Hp → VK → Prop := fun x xs H Q => ∃ rr, MtR X id rr ∧ rr x xs H Q
theorem mtU_ok {id : String} : MtR X id (mtU X id) := fun pins s σ H x xs v us Q I rx rv ⟨rr, h1, h2⟩ => h1 pins s σ H x xs v us Q I rx rv h2
theorem MtR.post {id : String} {rr : V → List V → Hp → VK → Prop} (h : MtR X id rr) (P : VK) : MtR X id (fun x xs H Q' => rr x xs H P ∧ ∀ v H', P v H' → Q' v H') := fun pins s σ H x xs v us Q' I rx rv ⟨q, m⟩ =>
  wpAny_mono (h pins s σ H x xs v us P I rx rv q) (fun _ _ ⟨v, H', I', rl, q⟩ => ⟨v, H', I', rl, m v H' q⟩) fun _ _ x => x
theorem mut_end {id : String} {ds args : List D} {i : Nat} {F0 T F F1 H : Hp} {σ : L2.St} {v : V} {us : List V} {Q : Res → Env2 → GD → Prop} (e1 : Ex F F1) (S : Sta X.K F0 T F1 G H r σ) (hi : r[i]? = some (.own (.lst ds))) (hv : σ[i]? = some (some v)) (ha : RepL X.K F1 args us)
    (h : MutW X id ds args fun res ds' => Q (.sh res) (r.set i (.own (.lst ds'))) G) : mtU X id v us H (PostE X.K F0 T F σ Q) := by
  obtain ⟨p, h1, ⟨vs, h2, h3⟩, h4, h5⟩ := S.mut hi
  rw [hv] at h1; cases h1
  obtain ⟨rr, k1, k2⟩ := h F1 H p vs us h2 h4 S.bas.fh h3 ha
  refine ⟨_, MtR.post k1 _, k2, fun v' H' ⟨vs', res, ds', z1, z2, z3, z4⟩ => ?_⟩
  subst z1
  exact ⟨.sh res, _, G, F1, e1, h5 _ (.lst ds') ⟨vs', upd_same, z3⟩, z2, z4⟩
theorem we_m1 {name : Str} {id : String} {Q : Res → Env2 → GD → Prop} (pa : PlainAttrs "list") (slot : Slot "list" name id) (hty : typeOf (.builtin id) = pure (.type "method_descriptor"))
    (h : WE X o r G fun x r1 G1 => ∃ i ds0, x = .pk i ∧ r1[i]? = some (.own (.lst ds0)) ∧ WE X e r1 G1 fun y r2 G2 => ∃ d r3 ds, fz r2 y = some (d, r3) ∧ r3[i]? = some (.own (.lst ds)) ∧ MutW X id ds [d] fun res ds' => Q (.sh res) (r3.set i (.own (.lst ds'))) G2)
    (hbase : attributeBase o name X.env (eval o X.env) = eval o X.env := by rfl)
    (hfew : ((backTo cpos (starEach [e] X.env)).all (fun x => !x.1) && (backToKw cpos (keywordEach [] X.env)).all (fun x => x.1.isSome) && decide (([e] : List Expr).length + ([] : List Keyword).length + (if ([] : List Keyword).isEmpty then 0 else 1) < 30)) = true := by rfl)
    (hline : (apos.endLine == cpos.line) = true := by rfl) (hs : starEach [e] X.env = (false, eval e X.env) :: starEach [] X.env := by rfl) (hplain : (backTo cpos (starEach [] X.env)).any (·.1) = false := by rfl) :
    WE X (.Call (.Attribute o name apos) [e] [] cpos) r G Q := fun F0 T F H σ lk S =>
  Run.of (pe_bm pa slot hty mtU_ok peR (pa_cons peR pa_nil hs) hbase hfew hline hs hplain) ((h F0 T F H σ lk S).mono fun v H1 ⟨x, r1, G1, F1, e1, S1, k1, i, ds0, hx, hi0, h1⟩ => by
    subst hx
    obtain ⟨hv, _⟩ := k1
    obtain ⟨p, h1', ⟨vs, h2, h3⟩, _⟩ := S1.mut hi0
    rw [hv] at h1'; cases h1'
    refine ⟨.inl ⟨rfl, vs, .inl (.inl h2)⟩, (h1 F0 T F1 H1 σ lk S1).mono fun w H2 ⟨y, r2, G2, F2, e2, S2, k2, d, r3, ds, q1, q2, q3⟩ => ?_⟩
    obtain ⟨F3, e3, S3, rp⟩ := S2.fz k2 q1
    exact mut_end ((e1.trans e2).trans e3) S3 q2 hv (.one rp) q3)
theorem mw_append {ds : List D} {d : D} {Kt : D → List D → Prop} (hl : ds.length < LIM) (k : Kt .non (ds ++ [d])) : MutW X "list.append" ds [d] Kt := fun F H p vs us hp hf ex h1 h2 => by
  obtain ⟨v, u', rfl, h3, h4⟩ := h2
  cases (show u' = [] from h4)
  exact ⟨_, mt_append, p, vs, v, rfl, rfl, hp, by rw [h1.length]; exact lim_lt hl, vs ++ [v], .non, ds ++ [d], rfl, rfl, h1.append (.one h3), k⟩
def rExtendR : V → List V → Hp → VK → Prop := fun x vs H Q => ∃ l b xs zs, x = .ref l ∧ vs = [.ref b] ∧ H l = some (.lst xs) ∧ Rd H b (.lst zs) ∧ xs.length + zs.length ≤ sizeLine ∧ Q .non (upd H l (.lst (xs ++ zs)))
theorem mt_extendR {X : Cx} : MtR X "list.extend" rExtendR := by
  intro pins s σ H x vs v us Q I rx rv h
  obtain ⟨l, b, xs, zs, rfl, rfl, hH, hB, hz, q⟩ := h
  cases rx
  obtain ⟨u, rfl, ru⟩ := rv.one
  cases ru
  obtain ⟨z, its, n, r, hl, e⟩ := I.lstM hH
  obtain ⟨z2, its2, n2, r2, e2⟩ := lst_of I hB
  have hl2 := r2.length
  have hsz : its.toArray.size + its2.toArray.size ≤ sizeLine := by rw [List.size_toArray, List.size_toArray]; omega
  have hlong : ¬ (!its.toArray.isEmpty && Builtin.List.listTooLong (its.toArray.size + its2.toArray.size)) = true := by
    rw [notLongL hsz, Bool.and_false]
    exact Bool.false_ne_true
  refine call_meets F.slot_list_extend ⟨_, e, rfl⟩ F.entry_list_extend (F.args_list_extend_2 _ _)
    (AutoSeq1.list_extend_list_list_0 l its.toArray n b its2.toArray n2 hlong (by rw [List.size_toArray]; omega) (by omega)) ⟨e, e2, ?_⟩
  refine ⟨.non, _, I.lset (its' := its ++ its2) hH e (by simp) (r.append r2) ?_, rfl, q⟩
  rw [List.length_append]
  omega
theorem mw_extend {ds es : List D} {Kt : D → List D → Prop} (hl : ds.length + es.length ≤ LIM) (k : Kt .non (ds ++ es)) : MutW X "list.extend" ds [.lst es] Kt := fun F H p vs us hp hf ex h1 h2 => by
  obtain ⟨v, u', rfl, ⟨q, ws, rfl, h5, h6⟩, h4⟩ := h2
  cases (show u' = [] from h4)
  exact ⟨_, mt_extendR, p, q, vs, ws, rfl, rfl, hp, ex.rd h5, by rw [h1.length, h6.length]; exact lim_ok hl, vs ++ ws, .non, ds ++ es, rfl, rfl, h1.append h6, k⟩
theorem we_append {Q : Res → Env2 → GD → Prop}
    (h : WE X o r G fun x r1 G1 => ∃ i ds0, x = .pk i ∧ r1[i]? = some (.own (.lst ds0)) ∧ WE X e r1 G1 fun y r2 G2 => ∃ d r3 ds, fz r2 y = some (d, r3) ∧ r3[i]? = some (.own (.lst ds)) ∧ ds.length < LIM ∧ Q (.sh .non) (r3.set i (.own (.lst (ds ++ [d])))) G2)
    (hbase : attributeBase o "append" X.env (eval o X.env) = eval o X.env := by rfl)
    (hfew : ((backTo cpos (starEach [e] X.env)).all (fun x => !x.1) && (backToKw cpos (keywordEach [] X.env)).all (fun x => x.1.isSome) && decide (([e] : List Expr).length + ([] : List Keyword).length + (if ([] : List Keyword).isEmpty then 0 else 1) < 30)) = true := by rfl)
    (hline : (apos.endLine == cpos.line) = true := by rfl) (hs : starEach [e] X.env = (false, eval e X.env) :: starEach [] X.env := by rfl) (hplain : (backTo cpos (starEach [] X.env)).any (·.1) = false := by rfl) :
    WE X (.Call (.Attribute o "append" apos) [e] [] cpos) r G Q :=
  we_m1 PySem.F.plainAttrs_list PySem.F.slot_list_append PySem.F.type_list_append (h.mono fun x r1 G1 ⟨i, ds0, h1, h2, h3⟩ => ⟨i, ds0, h1, h2, h3.mono fun y r2 G2 ⟨d, r3, ds, k1, k2, k3, k4⟩ => ⟨d, r3, ds, k1, k2, mw_append k3 k4⟩⟩) hbase hfew hline hs hplain
theorem we_extend {Q : Res → Env2 → GD → Prop}
    (h : WE X o r G fun x r1 G1 => ∃ i ds0, x = .pk i ∧ r1[i]? = some (.own (.lst ds0)) ∧ WE X e r1 G1 fun y r2 G2 => ∃ zs r3 ds, fz r2 y = some (.lst zs, r3) ∧ r3[i]? = some (.own (.lst ds)) ∧ ds.length + zs.length ≤ LIM ∧ Q (.sh .non) (r3.set i (.own (.lst (ds ++ zs)))) G2)
    (hbase : attributeBase o "extend" X.env (eval o X.env) = eval o X.env := by rfl)
    (hfew : ((backTo cpos (starEach [e] X.env)).all (fun x => !x.1) && (backToKw cpos (keywordEach [] X.env)).all (fun x => x.1.isSome) && decide (([e] : List Expr).length + ([] : List Keyword).length + (if ([] : List Keyword).isEmpty then 0 else 1) < 30)) = true := by rfl)
    (hline : (apos.endLine == cpos.line) = true := by rfl) (hs : starEach [e] X.env = (false, eval e X.env) :: starEach [] X.env := by rfl) (hplain : (backTo cpos (starEach [] X.env)).any (·.1) = false := by rfl) :
    WE X (.Call (.Attribute o "extend" apos) [e] [] cpos) r G Q :=
  we_m1 PySem.F.plainAttrs_list PySem.F.slot_list_extend PySem.F.type_list_extend (h.mono fun x r1 G1 ⟨i, ds0, h1, h2, h3⟩ => ⟨i, ds0, h1, h2, h3.mono fun y r2 G2 ⟨zs, r3, ds, k1, k2, k3, k4⟩ => ⟨.lst zs, r3, ds, k1, k2, mw_extend k3 k4⟩⟩) hbase hfew hline hs hplain
def Cy.blk (X : Cy) (s : Shared) (H : Hp) (scope : Scope) (env : Env) (fp : List Addr) : Cy := { X.toCx.blk s H scope env fp with F0 := X.F0, T := X.T, QX := fun _ _ _ => False }
def BlkX (X : Cy) (scope : Scope) (Y : Cy) : Prop := ∃ (s : Shared) (H : Hp) (C : Addr) (cl : List (Str × Addr)) (fp : List Addr), Y = X.blk s H scope (compEnvC scope cl C X.env) fp
theorem BlkX.k {scope : Scope} {Y : Cy} (h : BlkX X scope Y) : Y.K = X.K := by obtain ⟨_, _, _, _, _, rfl⟩ := h; rfl
theorem BlkX.lk {scope : Scope} {Y : Cy} {F0 T : Hp} (h : BlkX X scope Y) (lk : Lk X F0 T) : Lk Y F0 T := by obtain ⟨_, _, _, _, _, rfl⟩ := h; exact ⟨lk.t, lk.f, lk.ft⟩
theorem BlkX.tk {scope : Scope} {Y : Cy} (h : BlkX X scope Y) : Y.Tk := by
  obtain ⟨_, _, _, _, _, rfl⟩ := h
  exact takes0.imp fun _ _ _ _ ⟨_, _, _, _, _, _, z⟩ => z
def wipeD (r : Env2) : List Nat → Env2
  | [] => r
  | i :: is => (wipeD r is).set i .no
theorem wipeD_len (r : Env2) : ∀ is, (wipeD r is).length = r.length
  | [] => rfl
  | i :: is => by unfold wipeD; rw [List.length_set, wipeD_len r is]
theorem Sta.wipe {K : PySem.W.Frag} {F0 T F : Hp} {G : GD} {H : Hp} {r : Env2} {σ σ' : L2.St} (S : Sta K F0 T F G H r σ') : ∀ (is : List Nat), L2.wipe σ' is = L2.wipe σ is → Sta K F0 T F G H (wipeD r is) (L2.wipe σ is) := by
  intro is e
  rw [← e]
  clear e
  have key : ∀ (is : List Nat) (i : Nat) (s : Sl), (wipeD r is)[i]? = some s → s = .no ∨ (r[i]? = some s ∧ (L2.wipe σ' is)[i]? = σ'[i]?) := by
    intro is
    induction is with
    | nil => intro i s h; exact .inr ⟨h, rfl⟩
    | cons j is ih =>
      intro i s h
      unfold wipeD at h
      unfold L2.wipe
      by_cases hj : j = i
      · subst hj
        by_cases hl : j < (wipeD r is).length
        · rw [List.getElem?_set_self hl] at h; left; cases h; rfl
        · rw [List.getElem?_eq_none (by rw [List.length_set]; omega)] at h; cases h
      · rw [List.getElem?_set_ne hj] at h ⊢
        exact ih i s h
  refine ⟨S.bas, by rw [wipeD_len, wipe_length]; exact S.len, fun i s h => ?_, fun i j d e' hij hi hj => ?_⟩
  · rcases key is i s h with z | ⟨z1, z2⟩
    · subst z; trivial
    · rw [z2]; exact S.sl i s z1
  · rcases key is i _ hi with z | ⟨z1, z2⟩
    · cases z
    · rcases key is j _ hj with y | ⟨y1, y2⟩
      · cases y
      · rw [z2, y2]; exact S.ap i j d e' hij z1 y1
/-- what is done in a comprehension's turn, over data; B: the contexts in which elt is read -/
def LcTurnB (X : Cy) (scope : Scope) (B : Cy → Prop) (tg elt : Expr) (ifs : List Expr) (is : List Nat) (d : D) (acc : List D) (r : Env2) (G : GD) (Nx : List D → Env2 → GD → Prop) : Prop :=
  ∀ Y, BlkX X scope Y → WG Y tg d r G is fun r1 G1 => match ifs with
    | [] => ∀ Y, B Y → WE Y elt r1 G1 fun z r2 G2 => ∃ d' r3, fz r2 z = some (d', r3) ∧ acc.length < LIM ∧ Nx (acc ++ [d']) (wipeD r3 is) G2
    | [c] => ∀ Y, BlkX X scope Y → WT Y c r1 G1 fun b r2 G2 => (b = true → ∀ Y, B Y → WE Y elt r2 G2 fun z r3 G3 => ∃ d' r4, fz r3 z = some (d', r4) ∧ acc.length < LIM ∧ Nx (acc ++ [d']) (wipeD r4 is) G3) ∧ (b = false → Nx acc (wipeD r2 is) G2)
    | _ => False
def LcTurn (X : Cy) (scope : Scope) (tg elt : Expr) (ifs : List Expr) (is : List Nat) (d : D) (acc : List D) (r : Env2) (G : GD) (Nx : List D → Env2 → GD → Prop) : Prop :=
  ∀ Y, BlkX X scope Y → WG Y tg d r G is fun r1 G1 => match ifs with
    | [] => ∀ Y, BlkX X scope Y → WE Y elt r1 G1 fun z r2 G2 => ∃ d' r3, fz r2 z = some (d', r3) ∧ acc.length < LIM ∧ Nx (acc ++ [d']) (wipeD r3 is) G2
    | [c] => ∀ Y, BlkX X scope Y → WT Y c r1 G1 fun b r2 G2 => (b = true → ∀ Y, BlkX X scope Y → WE Y elt r2 G2 fun z r3 G3 => ∃ d' r4, fz r3 z = some (d', r4) ∧ acc.length < LIM ∧ Nx (acc ++ [d']) (wipeD r4 is) G3) ∧ (b = false → Nx acc (wipeD r2 is) G2)
    | _ => False
/-- the readings of a block, over all its contexts -/
def blkG (X : Cy) (scope : Scope) (tg : Expr) : TG := fun v σ H Q => ∀ Y, BlkX X scope Y → RunG Y tg v σ H Q
def blkE (X : Cy) (scope : Scope) (e : Expr) : TE := fun σ H Q => ∀ Y, BlkX X scope Y → Run Y e σ H Q
def blkT (X : Cy) (scope : Scope) (ifs : List Expr) : TT := fun σ H Q => match ifs with
  | [] => Q true H
  | [c] => ∀ Y, BlkX X scope Y → RunT Y c σ H Q
  | _ => False
theorem blkT_ok {scope : Scope} {ifs : List Expr} (s : Shared) (H : Hp) (C : Addr) (cl : List (Str × Addr)) (fp : List Addr) : PTs (X.toCx.blk s H scope (compEnvC scope cl C X.env) fp) ifs (blkT X scope ifs) := by
  refine ⟨fun pins s' σ H' Q I h => ?_⟩
  match ifs, h with
  | [], h => exact pts_nil.run pins s' σ H' Q I h
  | [c], h => exact (pts_one ptR).run pins s' σ H' Q I (h (X.blk s H scope (compEnvC scope cl C X.env) fp) ⟨s, H, C, cl, fp, rfl⟩)
  | _ :: _ :: _, h => exact h.elim
/-- one turn, over heaps -/
theorem lc_turnB {scope : Scope} {elt : Expr} {ifs : List Expr} {is : List Nat} {d : D} {acc : List D} {Nx : List D → Env2 → GD → Prop} {F0 T F H : Hp} {σ : L2.St} {v : V} {L : Addr} {us : List V}
    (lk : Lk X F0 T) (S : Sta X.K F0 (upd T L (.lst us)) F G H r (L2.wipe σ is)) (hT : T L = none) (h0 : F0 L = none) (ha : RepL X.K F0 acc us) (rp : Rep X.K F d v) {B : Cy → Prop} {te : TE} (hBk : ∀ Y, B Y → Y.K = X.K) (hBl : ∀ Y, B Y → ∀ T', Lk X F0 T' → Lk Y F0 T') (hte : ∀ σ H Q, (∀ Y, B Y → Run Y elt σ H Q) → te σ H Q) (h : LcTurnB X scope B tg elt ifs is d acc r G Nx) {Pn : Hp → Prop}
    (hN : ∀ acc' us' r' G' F' H', Nx acc' r' G' → RepL X.K F' acc' us' → Sta X.K F0 (upd T L (.lst us')) F' G' H' r' (L2.wipe σ is) → Pn H') :
    blkG X scope tg v (L2.wipe σ is) H fun σ2 H2 => L2.wipe σ2 is = L2.wipe σ is ∧ blkT X scope ifs σ2 H2 fun b H3 =>
      if b = true then te σ2 H3 fun y H4 => ∃ acc', H4 L = some (.lst acc') ∧ acc'.length < sizeLine ∧ Pn (upd H4 L (.lst (acc' ++ [y]))) else Pn H3 := by
  have wi : L2.wipe (L2.wipe σ is) is = L2.wipe σ is := by
    have aux : ∀ (js : List Nat) (τ : L2.St), (∀ j ∈ js, ∀ x, τ[j]? = some x → x = none) → L2.wipe τ js = τ := by
      intro js
      induction js with
      | nil => intro τ _; rfl
      | cons j js ih =>
        intro τ hτ
        unfold L2.wipe
        rw [ih τ fun k hk => hτ k (List.mem_cons_of_mem _ hk)]
        refine List.ext_getElem? fun k => ?_
        by_cases hjk : j = k
        · subst hjk
          by_cases hl : j < τ.length
          · rw [List.getElem?_set_self hl]
            cases e : τ[j]? with
            | none => rw [List.getElem?_eq_none_iff] at e; omega
            | some x => rw [hτ j List.mem_cons_self x e]
          · rw [List.getElem?_eq_none (by rw [List.length_set]; omega), List.getElem?_eq_none (by omega)]
        · rw [List.getElem?_set_ne hjk]
    refine aux is _ fun j hj x hx => ?_
    cases x with
    | none => rfl
    | some y => exact absurd hj (wipe_some hx).2
  have fin : ∀ (F2 : Hp) (G2 : GD) (H4 : Hp) (r2 r3 : Env2) (σ2 : L2.St) (z : Res) (y : V) (d' : D), L2.wipe σ2 is = L2.wipe σ is → Sta X.K F0 (upd T L (.lst us)) F2 G2 H4 r2 σ2 → ResOk X.K (upd T L (.lst us)) F2 G2 H4 r2 σ2 z y → fz r2 z = some (d', r3) → acc.length < LIM → Nx (acc ++ [d']) (wipeD r3 is) G2 →
      ∃ acc', H4 L = some (.lst acc') ∧ acc'.length < sizeLine ∧ Pn (upd H4 L (.lst (acc' ++ [y]))) := fun F2 G2 H4 r2 r3 σ2 z y d' hw S2 k2 q1 q2 q3 => by
    obtain ⟨F3, e3, S3, rp3⟩ := S2.fz k2 q1
    have hL : H4 L = some (.lst us) := S3.bas.tk L _ upd_same
    have ha3 : RepL X.K F3 acc us := RepL.mono S3.bas.ff _ _ ha
    have fL : F3 L = none := by
      cases e : F3 L with
      | none => rfl
      | some u =>
        rcases S3.bas.ft L u e with zz | zz
        · rw [h0] at zz; cases zz
        · rw [upd_same] at zz; cases zz
    have gL : G2 L = none := by
      cases e : G2 L with
      | none => rfl
      | some u => have zz := S3.bas.gt L u e; rw [upd_same] at zz; cases zz
    refine ⟨us, hL, by rw [ha3.length]; exact lim_lt q2, hN _ (us ++ [y]) _ G2 F3 _ q3 (ha3.append (.one rp3)) ?_⟩
    have Sw := S3.wipe is hw
    refine ⟨⟨Sw.bas.ff, fun q u hq => ?_, fun q u hq => ?_, fun q u hq => ?_, Sw.bas.fg, fun q u hq => ?_, fun q u hq => ?_⟩, Sw.len, fun i s hs => ?_, Sw.ap⟩
    · have hqL : q ≠ L := fun zz => by subst zz; rw [fL] at hq; cases hq
      have := Sw.bas.ft q u hq
      rw [upd_ne hqL] at this ⊢
      exact this
    · have hqL : q ≠ L := fun zz => by subst zz; rw [fL] at hq; cases hq
      rw [upd_ne hqL]; exact Sw.bas.fh q u hq
    · have hqL : q ≠ L := fun zz => by subst zz; rw [gL] at hq; cases hq
      exact (Sw.bas.gh q u hq).mono (Ex.refl _) fun o ho => by rw [upd_ne hqL]; exact ho
    · have hqL : q ≠ L := fun zz => by subst zz; rw [gL] at hq; cases hq
      have := Sw.bas.gt q u hq
      rw [upd_ne hqL] at this ⊢
      exact this
    · by_cases hqL : q = L
      · subst hqL; rw [upd_same] at hq ⊢; exact hq
      · rw [upd_ne hqL] at hq ⊢
        exact Sw.bas.tk q u (by rw [upd_ne hqL]; exact hq)
    · have hh := Sw.sl i s hs
      cases s with
      | no => trivial
      | sh d => exact hh
      | own d =>
        obtain ⟨p, k1, k3, k4, k5, k6⟩ := hh
        have hpL : p ≠ L := fun zz => by subst zz; rw [upd_same] at k6; cases k6
        rw [upd_ne hpL] at k6
        exact ⟨p, k1, k3.mono (Ex.refl _) (fun u hu => by rw [upd_ne hpL]; exact hu), k4, k5, by rw [upd_ne hpL]; exact k6⟩
  intro Y hY pins s u I rv
  have lk' : Lk X F0 (upd T L (.lst us)) := lk.ext (Ex.new hT)
  have hYK : Y.K = X.K := hY.k
  have h' := h Y hY
  unfold WG at h'
  rw [hYK] at h'
  refine wpAny_mono (h' F0 (upd T L (.lst us)) F H (L2.wipe σ is) v (hY.lk lk') S rp pins s u I rv) (fun _ s' ⟨σ', H', I', hw, r', G', F', e', S', q⟩ => ⟨σ', H', I', hw.trans wi, ?_⟩) fun _ _ x => x
  have hw' := hw.trans wi
  match ifs, q with
  | [], q =>
    unfold blkT
    dsimp only
    rw [if_pos rfl]
    refine hte _ _ _ fun Z hZ => ?_
    have q' := q Z hZ
    unfold WE at q'
    rw [hBk Z hZ] at q'
    exact (q' F0 _ F' H' σ' (hBl Z hZ _ lk') S').mono fun y H4 ⟨z, r2, G2, F2, e2, S2, k2, d', r3, m1, m2, m3⟩ => fin F2 G2 H4 r2 r3 σ' z y d' hw' S2 k2 m1 m2 m3
  | [c], q =>
    intro Z hZ
    have q' := q Z hZ
    unfold WT at q'
    rw [hZ.k] at q'
    refine (q' F0 _ F' H' σ' (hZ.lk lk') S').mono fun b H3 ⟨r2, G2, F2, e2, S2, m1, m2⟩ => ?_
    cases b with
    | true =>
      rw [if_pos rfl]
      refine hte _ _ _ fun W hW => ?_
      have q2 := m1 rfl W hW
      unfold WE at q2
      rw [hBk W hW] at q2
      exact (q2 F0 _ F2 H3 σ' (hBl W hW _ lk') S2).mono fun y H4 ⟨z, r3, G3, F3, e3, S3, k3, d', r4, n1, n2, n3⟩ => fin F3 G3 H4 r3 r4 σ' z y d' hw' S3 k3 n1 n2 n3
    | false =>
      rw [if_neg Bool.false_ne_true]
      exact hN acc us _ G2 F2 H3 (m2 rfl) (RepL.mono S2.bas.ff _ _ ha) (S2.wipe is hw')
  | _ :: _ :: _, q => exact q.elim
/-- what a comprehension's loop keeps -/
def LcInv (K : PySem.W.Frag) (T Fa : Hp) (τ : L2.St) (L : Addr) (I : List D → Env2 → GD → Prop) : Hp → Prop := fun H' =>
  ∃ acc us r' G' F', RepL K F' acc us ∧ Sta K Fa (upd T L (.lst us)) F' G' H' r' τ ∧ I acc r' G'
theorem lc_begin {K : PySem.W.Frag} {F0 T F H : Hp} {σ : L2.St} {is : List Nat} {L : Addr} {I : List D → Env2 → GD → Prop} (S : Sta K F0 T F G H r σ) (hL : H L = none) (h0 : I [] (wipeD r is) G) : LcInv K T F (L2.wipe σ is) L I (upd H L (.lst [])) := by
  obtain ⟨f1, f2, f3⟩ := S.bas.freshF hL
  have Sb := (S.newH (o := .lst []) hL).base.wipe (σ := σ) is rfl
  refine ⟨[], [], _, G, F, rfl, ⟨⟨Sb.bas.ff, fun q u hq => .inl hq, Sb.bas.fh, Sb.bas.gh, Sb.bas.fg, fun q u hq => ?_, fun q u hq => ?_⟩, Sb.len, fun i s hs => ?_, Sb.ap⟩, h0⟩
  · have hq' : q ≠ L := fun z => by subst z; rw [f2] at hq; cases hq
    rw [upd_ne hq']; exact Sb.bas.gt q u hq
  · by_cases hq' : q = L
    · subst hq'; rw [upd_same] at hq ⊢; exact hq
    · rw [upd_ne hq'] at hq; exact Sb.bas.tk q u hq
  · have hh := Sb.sl i s hs
    cases s with
    | no => trivial
    | sh d => exact hh
    | own d =>
      obtain ⟨p, k1, k2, k3, k4, k5⟩ := hh
      have hp : p ≠ L := fun z => by
        subst z
        by_cases hi : i ∈ is
        · have : (L2.wipe σ is)[i]? ≠ some (some (V.ref p)) := fun z => (wipe_some z).2 hi
          exact this k1
        · have e := (wipe_some k1).1
          have hr : r[i]? = some (.own d) := by
            have aux : ∀ (js : List Nat), i ∉ js → (wipeD r js)[i]? = r[i]? := by
              intro js
              induction js with
              | nil => intro _; rfl
              | cons j js ih =>
                intro hj
                unfold wipeD
                rw [List.getElem?_set_ne (fun z => hj (by rw [z]; exact List.mem_cons_self)), ih (fun z => hj (List.mem_cons_of_mem _ z))]
            rw [aux is hi] at hs
            exact hs
          exact S.freshR hL i d hr e
      exact ⟨p, k1, k2, k3, k4, by rw [upd_ne hp]; exact k5⟩
theorem lc_end {K : PySem.W.Frag} {F0 T Fa : Hp} {Ga : GD} {Ha H' : Hp} {σ : L2.St} {is : List Nat} {L : Addr} {I : List D → Env2 → GD → Prop} {Q : Res → Env2 → GD → Prop} (B : Bas K F0 T Fa Ga Ha) (hL : Ha L = none) (hσ : Wk r (wipeD r is)) (S0 : Sta K F0 T Fa Ga Ha r σ) (h : LcInv K T Fa (L2.wipe σ is) L I H') (he : ∀ acc r' G', I acc r' G' → Q (.fr (.lst acc)) r' G') :
    PostE K F0 T Fa σ Q (.ref L) H' := by
  obtain ⟨acc, us, r', G', F', ha, S, q⟩ := h
  obtain ⟨f1, f2, f3⟩ := B.freshF hL
  have fL : F' L = none := by
    cases e : F' L with
    | none => rfl
    | some u =>
      rcases S.bas.ft L u e with zz | zz
      · rw [f1] at zz; cases zz
      · rw [upd_same] at zz; cases zz
  have gL : G' L = none := by
    cases e : G' L with
    | none => rfl
    | some u => have zz := S.bas.gt L u e; rw [upd_same] at zz; cases zz
  have tsub : ∀ q u, T q = some u → upd T L (.lst us) q = some u := fun q u hq => by
    have hqL : q ≠ L := fun zz => by subst zz; rw [f3] at hq; cases hq
    rw [upd_ne hqL]; exact hq
  have tdown : ∀ q, upd T L (.lst us) q = none → T q = none := fun q hq => by
    cases hf : T q with
    | none => rfl
    | some u => rw [tsub q u hf] at hq; cases hq
  have slots : ∀ (i : Nat) (s : Sl), r'[i]? = some s → SlotOk K T F' G' H' s σ[i]? := fun i s hs => by
    have hh := S.sl i s hs
    cases s with
    | no => trivial
    | sh d => obtain ⟨v, k1, k2⟩ := hh; exact ⟨v, (wipe_some k1).1, k2⟩
    | own d => obtain ⟨p, k1, k2, k3, k4, k5⟩ := hh; exact ⟨p, (wipe_some k1).1, k2, k3, k4, tdown p k5⟩
  have St : Sta K F0 T F' G' H' r' σ := by
    refine ⟨⟨B.ff.trans S.bas.ff, fun q u hq => ?_, S.bas.fh, S.bas.gh, S.bas.fg, fun q u hq => tdown q (S.bas.gt q u hq), fun q u hq => S.bas.tk q u (tsub q u hq)⟩, by rw [S.len, wipe_length], slots, fun i j d e hij hi hj z => ?_⟩
    · rcases S.bas.ft q u hq with zz | zz
      · exact B.ft q u zz
      · exact .inr (tdown q zz)
    · obtain ⟨p, k1, _⟩ := S.ownS hi
      obtain ⟨p2, m1, _⟩ := S.ownS hj
      refine S.ap i j d e hij hi hj ?_
      rw [(wipe_some k1).1, (wipe_some m1).1] at z
      rw [k1, m1, z]
  refine ⟨.fr (.lst acc), r', G', F', S.bas.ff, St, ⟨L, rfl, ⟨us, S.bas.tk L _ upd_same, ha⟩, fL, gL, f3, fun i d hi z => ?_⟩, he acc r' G' q⟩
  obtain ⟨p, k1, _, _, _, k5⟩ := S.ownS hi
  have e1 := (wipe_some k1).1
  rw [e1] at z; cases z
  rw [upd_same] at k5; cases k5
theorem wk_wipe (r : Env2) : ∀ is, Wk r (wipeD r is)
  | [] => Wk.refl r
  | i :: is => by
    have ih := wk_wipe r is
    unfold wipeD
    have aux : ∀ {a b : Env2}, Wk a b → ∀ i, Wk a (b.set i .no) := by
      intro a b w
      induction w with
      | nil => intro i; exact .nil
      | no w ih =>
        intro i
        cases i with
        | zero => exact .no w
        | succ i => exact .no (ih i)
      | eq w ih =>
        intro i
        cases i with
        | zero => exact .no w
        | succ i => exact .eq (ih i)
    exact aux ih i
/-- one step of a comprehension over items -/
theorem lc_stepB {scope : Scope} {elt : Expr} {ifs : List Expr} {is : List Nat} {d : D} {J : It} {ds : List D} {i : Nat} {T Fa : Hp} {H H' : Hp} {σ : L2.St} {v : V} {L : Addr} {I I' : List D → Env2 → GD → Prop} (lk : Lk X Fa T) (hL : Fa L = none) (hT : T L = none) (hJ : ItD X.K J Fa ds) (hi : ds[i]? = some d) (h : LcInv X.K T Fa (L2.wipe σ is) L I H) (y : J.yld i H v H')
    {B : Cy → Prop} {te : TE} (hBk : ∀ Y, B Y → Y.K = X.K) (hBl : ∀ Y, B Y → ∀ F' T', Ex Fa F' → Lk X F' T' → Lk Y F' T') (hte : ∀ σ H Q, (∀ Y, B Y → Run Y elt σ H Q) → te σ H Q) (hs : ∀ acc r' G', I acc r' G' → LcTurnB X scope B tg elt ifs is d acc r' G' I') :
    blkG X scope tg v (L2.wipe σ is) H' fun σ2 H2 => L2.wipe σ2 is = L2.wipe σ is ∧ blkT X scope ifs σ2 H2 fun b H3 =>
      if b = true then te σ2 H3 fun y H4 => ∃ acc', H4 L = some (.lst acc') ∧ acc'.length < sizeLine ∧ LcInv X.K T Fa (L2.wipe σ is) L I' (upd H4 L (.lst (acc' ++ [y]))) else LcInv X.K T Fa (L2.wipe σ is) L I' H3 := by
  obtain ⟨acc, us, r', G', F1, ha1, S1, q⟩ := h
  obtain ⟨F', ef, S, rp⟩ := hJ.item S1.bas.ff S1 hi y
  have ha := RepL.mono ef _ _ ha1
  have fL : F' L = none := by
    cases e : F' L with
    | none => rfl
    | some u =>
      rcases S.bas.ft L u e with zz | zz
      · rw [hL] at zz; cases zz
      · rw [upd_same] at zz; cases zz
  have lk' : Lk X F' T := ⟨lk.t, lk.f.trans S.bas.ff, fun a o ho => (S.bas.ft a o ho).elim (fun z => lk.ft a o z) fun z => .inr (none_of lk.t (none_of (Ex.new hT) z))⟩
  refine lc_turnB lk' S.base hT fL ha rp hBk (fun Y hY T' l2 => hBl Y hY F' T' S.bas.ff l2) hte (hs acc r' G' q) fun acc' us' r2 G2 F2 H2 q2 ha2 S2 => ?_
  refine ⟨acc', us', r2, G2, F2, ha2, ⟨⟨S.bas.ff.trans S2.bas.ff, fun q u hq => ?_, S2.bas.fh, S2.bas.gh, S2.bas.fg, S2.bas.gt, S2.bas.tk⟩, S2.len, S2.sl, S2.ap⟩, q2⟩
  rcases S2.bas.ft q u hq with zz | zz
  · rcases S.bas.ft q u zz with yy | yy
    · exact .inl yy
    · by_cases hqL : q = L
      · subst hqL; rw [fL] at zz; cases zz
      · rw [upd_ne hqL] at yy ⊢; exact .inr yy
  · exact .inr zz
theorem lc_step {scope : Scope} {elt : Expr} {ifs : List Expr} {is : List Nat} {d : D} {J : It} {ds : List D} {i : Nat} {T Fa : Hp} {H H' : Hp} {σ : L2.St} {v : V} {L : Addr} {I I' : List D → Env2 → GD → Prop} (lk : Lk X Fa T) (hL : Fa L = none) (hT : T L = none) (hJ : ItD X.K J Fa ds) (hi : ds[i]? = some d) (h : LcInv X.K T Fa (L2.wipe σ is) L I H) (y : J.yld i H v H')
    (hs : ∀ acc r' G', I acc r' G' → LcTurn X scope tg elt ifs is d acc r' G' I') :
    blkG X scope tg v (L2.wipe σ is) H' fun σ2 H2 => L2.wipe σ2 is = L2.wipe σ is ∧ blkT X scope ifs σ2 H2 fun b H3 =>
      if b = true then blkE X scope elt σ2 H3 fun y H4 => ∃ acc', H4 L = some (.lst acc') ∧ acc'.length < sizeLine ∧ LcInv X.K T Fa (L2.wipe σ is) L I' (upd H4 L (.lst (acc' ++ [y]))) else LcInv X.K T Fa (L2.wipe σ is) L I' H3 :=
  lc_stepB (B := BlkX X scope) lk hL hT hJ hi h y (fun _ h => h.k) (fun _ h _ _ _ lk => h.lk lk) (fun _ _ _ h => h) hs
/-- [elt for tg in e if ..] -/
theorem lcI {scope : Scope} {elt : Expr} {ifs : List Expr} {own : List (Str × Nat)} {Q : Res → Env2 → GD → Prop} {F0 T F H : Hp} {σ : L2.St} (lk : Lk X F0 T) (S : Sta X.K F0 T F G H r σ)
    (h : WI X tg e r G fun ds r2 G1 => ∃ I : Nat → List D → Env2 → GD → Prop, I 0 [] (wipeD r2 (own.map (·.2))) G1 ∧ (∀ (k : Nat) (d : D) (acc : List D) (r3 : Env2) (G3 : GD), ds[k]? = some d → I k acc r3 G3 → LcTurn X scope tg elt ifs (own.map (·.2)) d acc r3 G3 (I (k + 1))) ∧
      ∀ acc r3 G3, I ds.length acc r3 G3 → Q (.fr (.lst acc)) r3 G3) : tLc (RunI X tg e) (blkG X scope tg) (blkT X scope ifs) (blkE X scope elt) (own.map (·.2)) σ H (PostE X.K F0 T F σ Q) := by
  refine (h F0 T F H σ lk S).mono fun J H1 ⟨ds, r2, G1, Fa, e1, Sa, hJ, I, i0, it, ie⟩ L hL => ?_
  obtain ⟨f1, f2, f3⟩ := Sa.bas.freshF hL
  refine ⟨fun i m H' => m = ds.length - i ∧ i ≤ ds.length ∧ LcInv X.K T Fa (L2.wipe σ (own.map (·.2))) L (I i) H', ⟨ds.length, by simp, Nat.zero_le _, lc_begin Sa hL i0⟩, ?_⟩
  rintro i m H' ⟨rfl, hi, hI⟩
  obtain ⟨_, _, _, _, F', _, S', _⟩ := id hI
  obtain ⟨j1, j2⟩ := hJ F' H' S'.bas.ff S'.bas.fh
  by_cases hlt : i < ds.length
  · obtain ⟨j3, _⟩ := j2 i ds[i] (List.getElem?_eq_getElem hlt)
    refine .inr ⟨j3, fun H2 => LcInv X.K T Fa (L2.wipe σ (own.map (·.2))) L (I (i + 1)) H2, fun H2 p2 => ⟨ds.length - (i + 1), by omega, rfl, hlt, p2⟩, fun x H2 y => ?_⟩
    exact lc_step (lk.base Sa.bas) f1 f3 hJ (List.getElem?_eq_getElem hlt) hI y fun acc r' G' q => it i ds[i] acc r' G' (List.getElem?_eq_getElem hlt) q
  · have e : i = ds.length := by omega
    subst e
    exact .inl ⟨j1, (lc_end Sa.bas hL (wk_wipe _ _) Sa hI fun acc r' G' q => ie acc r' G' q).ext e1⟩
theorem blkG_ok {scope : Scope} (s : Shared) (H : Hp) (C : Addr) (cl : List (Str × Addr)) (fp : List Addr) : PG (X.toCx.blk s H scope (compEnvC scope cl C X.env) fp) tg (blkG X scope tg) :=
  ⟨fun pins s' σ H' v u Q I rv h => h (X.blk s H scope (compEnvC scope cl C X.env) fp) ⟨s, H, C, cl, fp, rfl⟩ pins s' u I rv⟩
theorem blkE_ok {scope : Scope} {elt : Expr} (s : Shared) (H : Hp) (C : Addr) (cl : List (Str × Addr)) (fp : List Addr) : PE (X.toCx.blk s H scope (compEnvC scope cl C X.env) fp) elt (blkE X scope elt) :=
  ⟨fun pins s' σ H' Q I h => h (X.blk s H scope (compEnvC scope cl C X.env) fp) ⟨s, H, C, cl, fp, rfl⟩ pins s' I⟩
theorem we_lc {scope : Scope} {elt : Expr} {ifs : List Expr} (own : List (Str × Nat)) {Q : Res → Env2 → GD → Prop} (hc : X.calm = true) (hN : X.N.Nodup) (ok : BlkOk X.N X.env.scope scope own)
    (h : WI X tg e r G fun ds r2 G1 => ∃ I : Nat → List D → Env2 → GD → Prop, I 0 [] (wipeD r2 (own.map (·.2))) G1 ∧ (∀ (k : Nat) (d : D) (acc : List D) (r3 : Env2) (G3 : GD), ds[k]? = some d → I k acc r3 G3 → LcTurn X scope tg elt ifs (own.map (·.2)) d acc r3 G3 (I (k + 1))) ∧
      ∀ acc r3 G3, I ds.length acc r3 G3 → Q (.fr (.lst acc)) r3 G3) (hs : ∀ x, foldedSetIterable e X.env x = pure x := by intro _; rfl) : WE X (.ListComp elt [⟨tg, e, ifs, 0⟩] scope pos) r G Q := fun F0 T F H σ lk S =>
  Run.of (pe_lc hc hN piR ok blkG_ok blkT_ok blkE_ok hs) (lcI lk S h)
end
theorem Sta.gput {K : PySem.W.Frag} {F0 T F : Hp} {G : GD} {H : Hp} {r : Env2} {σ : L2.St} (S : Sta K F0 T F G H r σ) {b : Addr} {d0 d : D} (hG : G b = some d0) {o' : HO} (ho : Own K F (upd H b o') b d) : Sta K F0 T F (updG G b d) (upd H b o') r σ := by
  have f1 := S.bas.fg _ _ hG
  have f2 := S.bas.gt _ _ hG
  refine ⟨⟨S.bas.ff, S.bas.ft, fun a u e => ?_, fun a u e => ?_, fun a u e => ?_, fun a u e => ?_, fun a u e => ?_⟩, S.len, fun i s e => ?_, S.ap⟩
  · rw [upd_ne (ne_of_none e f1)]; exact S.bas.fh a u e
  · by_cases h : a = b
    · subst h; rw [updG_same] at e; cases e; exact ho
    · rw [updG_ne h] at e
      exact (S.bas.gh a u e).mono (Ex.refl _) fun o q => by rw [upd_ne h]; exact q
  · by_cases h : a = b
    · subst h; exact f1
    · rw [updG_ne h] at e; exact S.bas.fg a u e
  · by_cases h : a = b
    · subst h; exact f2
    · rw [updG_ne h] at e; exact S.bas.gt a u e
  · rw [upd_ne (ne_of_none e f2)]; exact S.bas.tk a u e
  · have q := S.sl i s e
    cases s with
    | no => trivial
    | sh d => exact q
    | own d =>
      obtain ⟨p, q1, q2, q3, q4, q5⟩ := q
      have hp : p ≠ b := fun z => by subst z; rw [q4] at hG; cases hG
      exact ⟨p, q1, q2.mono (Ex.refl _) (fun u hu => by rw [upd_ne hp]; exact hu), q3, by rw [updG_ne hp]; exact q4, q5⟩
/-- a new object of the open region -/
theorem Sta.gnew {K : PySem.W.Frag} {F0 T F : Hp} {G : GD} {H : Hp} {r : Env2} {σ : L2.St} (S : Sta K F0 T F G H r σ) {p : Addr} {d : D} (h : ResOk K T F G H r σ (.fr d) (.ref p)) : Sta K F0 T F (updG G p d) H r σ := by
  obtain ⟨p', e, h2, h3, h4, h5, h6⟩ := h
  cases e
  refine ⟨⟨S.bas.ff, S.bas.ft, S.bas.fh, fun a u e => ?_, fun a u e => ?_, fun a u e => ?_, S.bas.tk⟩, S.len, fun i s e => ?_, S.ap⟩
  · by_cases h : a = p
    · subst h; rw [updG_same] at e; cases e; exact h2
    · rw [updG_ne h] at e; exact S.bas.gh a u e
  · by_cases h : a = p
    · subst h; exact h3
    · rw [updG_ne h] at e; exact S.bas.fg a u e
  · by_cases h : a = p
    · subst h; exact h5
    · rw [updG_ne h] at e; exact S.bas.gt a u e
  · have q := S.sl i s e
    cases s with
    | no => trivial
    | sh d => exact q
    | own d =>
      obtain ⟨p', q1, q2, q3, q4, q5⟩ := q
      have hp : p' ≠ p := fun z => by subst z; exact h6 i d e q1
      exact ⟨p', q1, q2, q3, by rw [updG_ne hp]; exact q4, q5⟩
section
variable {X : Cy} {e e2 a b c o tg : Expr} {es : List Expr} {st : Stmt} {sts rest body orelse : List Stmt} {r : Env2} {G : GD} {pos tpos apos cpos p0 : Pos} {D0 : EndsD}
/-- a fresh result goes to the open region -/
theorem we_open {Q : Res → Env2 → GD → Prop} (h : WE X e r G fun x r1 G1 => ∃ d, x = .fr d ∧ ∀ p, G1 p = none → Q (.sh (.adr p)) r1 (updG G1 p d)) : WE X e r G Q := fun F0 T F H σ lk S =>
  (h F0 T F H σ lk S).mono fun v H1 ⟨x, r1, G1, F1, e1, S1, k1, d, hx, q⟩ => by
    subst hx
    obtain ⟨p, rfl, h2, h3, h4, h5, h6⟩ := id k1
    exact ⟨.sh (.adr p), r1, updG G1 p d, F1, e1, S1.gnew k1, rfl, q p h4⟩
/-- o[i] = e, o a list of the open region -/
theorem ws_setG (h : WE X e r G fun y r1 G1 => ∃ d r1', fz r1 y = some (d, r1') ∧ WE X o r1' G1 fun x r2 G2 => ∃ g, x = .sh (.adr g) ∧ WE X a r2 G2 fun z r3 G3 => ∃ k ds m, vw r3 z = some (.int k) ∧ G3 g = some (.lst ds) ∧ ixN ds.length k = some m ∧ D0.nx r3 (updG G3 g (.lst (ds.set m d))))
    (ha : ∀ v, assign (.Subscript o a tpos) X.env v = (do
      let ov ← holding [v] (eval o X.env)
      let iv ← holding [v, ov] (eval a X.env)
      standAt tpos
      holding [v, ov, iv] (setItem ov iv v)
      release [v, ov, iv] []) := by intro _; rfl)
    (hs : swapsWithSole [.Subscript o a tpos] e pos.line X.env = pure false := by rfl) (hw : swappedStores [.Subscript o a tpos] e X.env = pure none := by rfl)
    (h1 : (assignEach [.Subscript o a tpos] X.env).map (·.2) = [assign (.Subscript o a tpos) X.env] := by rfl) : WS X (.Assign [.Subscript o a tpos] e pos) r G D0 := fun F0 T F H σ lk S =>
  RunS.of (ps_asg peR (pg_sub peR peR set_list ha) hs hw h1) ((h F0 T F H σ lk S).mono fun v H1 ⟨y, r1, G1, F1, e1, S1, k1, d, r1', q1, q2⟩ => by
    obtain ⟨F1', e1', S1', rp⟩ := S1.fz k1 q1
    refine (q2 F0 T F1' H1 σ lk S1').mono fun vo H2 ⟨x, r2, G2, F2, e2, S2, k2, g, hx, q3⟩ => ?_
    subst hx
    cases (show vo = .ref g from k2)
    refine (q3 F0 T F2 H2 σ lk S2).mono fun vi H3 ⟨z, r3, G3, F3, e3, S3, k3, k, ds, m, q4, q5, q6, q7⟩ => ?_
    cases (S3.view k3 q4).int
    obtain ⟨vs, z1, z2⟩ := S3.bas.gh _ _ q5
    exact ⟨g, vs, k, m, rfl, rfl, z1, by rw [z2.length]; exact q6, r3, _, F3, S3.gput (d := .lst (ds.set m d)) q5 ⟨_, upd_same, z2.set m (Rep.mono (e2.trans e3) _ _ rp)⟩, q7⟩)
theorem mutG_end {id : String} {ds args : List D} {g : Addr} {F0 T F F1 H : Hp} {σ : L2.St} {us : List V} {Q : Res → Env2 → GD → Prop} (e1 : Ex F F1) (S : Sta X.K F0 T F1 G H r σ) (hg : G g = some (.lst ds)) (ha : RepL X.K F1 args us)
    (h : MutW X id ds args fun res ds' => Q (.sh res) r (updG G g (.lst ds'))) : mtU X id (.ref g) us H (PostE X.K F0 T F σ Q) := by
  obtain ⟨vs, h2, h3⟩ := S.bas.gh _ _ hg
  obtain ⟨rr, k1, k2⟩ := h F1 H g vs us h2 (S.bas.fg _ _ hg) S.bas.fh h3 ha
  refine ⟨_, MtR.post k1 _, k2, fun v' H' ⟨vs', res, ds', z1, z2, z3, z4⟩ => ?_⟩
  subst z1
  exact ⟨.sh res, _, _, F1, e1, S.gput (d := .lst ds') hg ⟨vs', upd_same, z3⟩, z2, z4⟩
theorem we_m1G {name : Str} {id : String} {Q : Res → Env2 → GD → Prop} (pa : PlainAttrs "list") (slot : Slot "list" name id) (hty : typeOf (.builtin id) = pure (.type "method_descriptor"))
    (h : WE X o r G fun x r1 G1 => ∃ g ds0, x = .sh (.adr g) ∧ G1 g = some (.lst ds0) ∧ WE X e r1 G1 fun y r2 G2 => ∃ d r3 ds, fz r2 y = some (d, r3) ∧ G2 g = some (.lst ds) ∧ MutW X id ds [d] fun res ds' => Q (.sh res) r3 (updG G2 g (.lst ds')))
    (hbase : attributeBase o name X.env (eval o X.env) = eval o X.env := by rfl)
    (hfew : ((backTo cpos (starEach [e] X.env)).all (fun x => !x.1) && (backToKw cpos (keywordEach [] X.env)).all (fun x => x.1.isSome) && decide (([e] : List Expr).length + ([] : List Keyword).length + (if ([] : List Keyword).isEmpty then 0 else 1) < 30)) = true := by rfl)
    (hline : (apos.endLine == cpos.line) = true := by rfl) (hs : starEach [e] X.env = (false, eval e X.env) :: starEach [] X.env := by rfl) (hplain : (backTo cpos (starEach [] X.env)).any (·.1) = false := by rfl) :
    WE X (.Call (.Attribute o name apos) [e] [] cpos) r G Q := fun F0 T F H σ lk S =>
  Run.of (pe_bm pa slot hty mtU_ok peR (pa_cons peR pa_nil hs) hbase hfew hline hs hplain) ((h F0 T F H σ lk S).mono fun v H1 ⟨x, r1, G1, F1, e1, S1, k1, g, ds0, hx, hg0, h1⟩ => by
    subst hx
    cases (show v = .ref g from k1)
    obtain ⟨vs, h2, h3⟩ := S1.bas.gh _ _ hg0
    refine ⟨.inl ⟨rfl, vs, .inl (.inl h2)⟩, (h1 F0 T F1 H1 σ lk S1).mono fun w H2 ⟨y, r2, G2, F2, e2, S2, k2, d, r3, ds, q1, q2, q3⟩ => ?_⟩
    obtain ⟨F3, e3, S3, rp⟩ := S2.fz k2 q1
    exact mutG_end ((e1.trans e2).trans e3) S3 q2 (.one rp) q3)
theorem Sta.lock {K : PySem.W.Frag} {F0 T F : Hp} {G : GD} {H : Hp} {r : Env2} {σ : L2.St} (S : Sta K F0 T F G H r σ) {p : Addr} {ks : List Key} {ds : List D} {vs : List V} {o : Obj} (hp : H p = some (.dK (ks.zip vs))) (hl : ks.length = ds.length) (hv : RepL K F ds vs) (h1 : F p = none) (h2 : G p = none) (h3 : T p = none)
    (h4 : ∀ (i : Nat) (e : D), r[i]? = some (.own e) → σ[i]? ≠ some (some (.ref p))) :
    Ex F (upd F p (.frz o (.dK (ks.zip vs)))) ∧ Sta K F0 T (upd F p (.frz o (.dK (ks.zip vs)))) G (upd H p (.frz o (.dK (ks.zip vs)))) r σ ∧ Rep K (upd F p (.frz o (.dK (ks.zip vs)))) (.dic ks ds) (.ref p) := by
  have ef : Ex F (upd F p (.frz o (.dK (ks.zip vs)))) := Ex.new h1
  refine ⟨ef, ⟨(S.bas.put h1 h2 h3).frz upd_same h1 h2 h3, S.len, fun i s e => ?_, S.ap⟩, p, o, vs, rfl, upd_same, hl, RepL.mono ef _ _ hv⟩
  have q := S.sl i s e
  cases s with
  | no => trivial
  | sh d => obtain ⟨v, q1, q2⟩ := q; exact ⟨v, q1, Rep.mono ef _ _ q2⟩
  | own d =>
    obtain ⟨p', q1, q2, q3, q4, q5⟩ := q
    have hne : p' ≠ p := fun z => by subst z; exact h4 i d e q1
    exact ⟨p', q1, q2.mono ef fun u hu => by rw [upd_ne hne]; exact hu, by rw [upd_ne hne]; exact q3, q4, q5⟩
/-- a dict that was just made -/
theorem we_lock {Q : Res → Env2 → GD → Prop} (h : WE X e r G fun x r1 G1 => ∃ ks ds, x = .fr (.dic ks ds) ∧ Q (.sh (.dic ks ds)) r1 G1) : WE X e r G Q := fun F0 T F H σ lk S pins s I =>
  wpAny_mono (h F0 T F H σ lk S pins s I) (fun u s' ⟨v, H', I', rv, x, r1, G1, F1, e1, S1, k1, ks, ds, hx, q⟩ => by
    subst hx
    obtain ⟨p, rfl, ⟨vs, z1, z2, z3⟩, h3, h4, h5, h6⟩ := k1
    obtain ⟨o, I2⟩ := I'.lock z1 (by first | trivial | exact .inl rfl | decide)
    obtain ⟨ef, S2, rp⟩ := S1.lock (o := o) z1 z2 z3 h3 h4 h5 h6
    exact ⟨.ref p, _, I2, rv, .sh (.dic ks ds), r1, G1, _, e1.trans ef, S2, rp, q⟩) fun _ _ x => x
theorem Sta.lockSlot {K : PySem.W.Frag} {F0 T F : Hp} {G : GD} {H : Hp} {r : Env2} {σ : L2.St} (S : Sta K F0 T F G H r σ) {i : Nat} {ks : List Key} {ds : List D} (h : r[i]? = some (.own (.dic ks ds))) : ∃ p vs, H p = some (.dK (ks.zip vs)) ∧ σ[i]? = some (some (.ref p)) ∧ ∀ o,
    ∃ F', Ex F F' ∧ Sta K F0 T F' G (upd H p (.frz o (.dK (ks.zip vs)))) (r.set i (.sh (.dic ks ds))) σ ∧ Rep K F' (.dic ks ds) (.ref p) := by
  obtain ⟨p, h1, ⟨vs, z1, z2, z3⟩, h3, h4, h5⟩ := S.ownS h
  have hi : i < r.length := (List.getElem?_eq_some_iff.mp h).1
  refine ⟨p, vs, z1, h1, fun o => ?_⟩
  have S0 : Sta K F0 T F G H (r.set i .no) σ := by
    refine ⟨S.bas, by rw [List.length_set]; exact S.len, fun j s e => ?_, fun j k d e hjk ej ek => ?_⟩
    · by_cases hj : i = j
      · subst hj; rw [List.getElem?_set_self hi] at e; cases e; trivial
      · rw [List.getElem?_set_ne hj] at e; exact S.sl j s e
    · by_cases hj : i = j
      · subst hj; rw [List.getElem?_set_self hi] at ej; cases ej
      · by_cases hk : i = k
        · subst hk; rw [List.getElem?_set_self hi] at ek; cases ek
        · rw [List.getElem?_set_ne hj] at ej
          rw [List.getElem?_set_ne hk] at ek
          exact S.ap j k d e hjk ej ek
  obtain ⟨ef, S2, rp⟩ := S0.lock (o := o) z1 z2 z3 h3 h4 h5 fun j e hj zz => by
    by_cases hij : i = j
    · subst hij; rw [List.getElem?_set_self hi] at hj; cases hj
    · rw [List.getElem?_set_ne hij] at hj
      exact S.ap i j _ e hij h hj (h1.trans zz.symm)
  refine ⟨_, ef, ?_, rp⟩
  have := S2.set (i := i) (s := .sh (.dic ks ds)) (v := .ref p) (by rw [List.length_set]; exact hi) ⟨_, rfl, rp⟩ fun d z => nomatch z
  rw [List.set_set] at this
  have hσ : σ.set i (some (.ref p)) = σ := by
    refine List.ext_getElem? fun j => ?_
    by_cases hj : i = j
    · subst hj
      have hl : i < σ.length := by rw [← S.len]; exact hi
      rw [List.getElem?_set_self hl, h1]
    · rw [List.getElem?_set_ne hj]
  rw [hσ] at this
  exact this
/-- a dict of an own slot, as a result -/
theorem we_lockV {Q : Res → Env2 → GD → Prop} (h : WE X e r G fun x r1 G1 => ∃ i ks ds, x = .pk i ∧ r1[i]? = some (.own (.dic ks ds)) ∧ Q (.sh (.dic ks ds)) (r1.set i (.sh (.dic ks ds))) G1) : WE X e r G Q := fun F0 T F H σ lk S pins s I =>
  wpAny_mono (h F0 T F H σ lk S pins s I) (fun u s' ⟨v, H', I', rv, x, r1, G1, F1, e1, S1, k1, i, ks, ds, hx, hi, q⟩ => by
    subst hx
    obtain ⟨p, vs, z1, z2, hz⟩ := S1.lockSlot hi
    obtain ⟨k2, _⟩ := k1
    rw [k2] at z2; cases z2
    obtain ⟨o, I2⟩ := I'.lock z1 (by first | trivial | exact .inl rfl | decide)
    obtain ⟨F', ef, S2, rp⟩ := hz o
    exact ⟨.ref p, _, I2, rv, .sh (.dic ks ds), _, G1, F', e1.trans ef, S2, rp, q⟩) fun _ _ x => x
end
section
variable {X : Cy} {e a b c o tg : Expr} {es : List Expr} {st : Stmt} {sts rest body orelse : List Stmt} {r : Env2} {G : GD} {pos tpos apos cpos p0 : Pos} {D0 : EndsD}
theorem chain {op op' : CmpOp} {Q : Res → Env2 → GD → Prop} {F0 T F H : Hp} {σ : L2.St} (lk : Lk X F0 T) (S : Sta X.K F0 T F G H r σ)
    (h : WE X a r G fun x r1 G1 => WE X b r1 G1 fun y r2 G2 => ∃ da db, VwR r2 G2 x da ∧ VwR r2 G2 y db ∧ OpW X (compareOp op) da db fun z => ∃ k, z = .sh (.bl k) ∧ (k = true → WE X c r2 G2 fun w r3 G3 => ∃ db' dc, VwR r3 G3 y db' ∧ VwR r3 G3 w dc ∧ OpW X (compareOp op') db' dc fun u => Q u r3 G3) ∧ (k = false → Q (.sh (.bl false)) r2 G2)) :
    tChain (opU X (compareOp op)) (opU X (compareOp op')) (Run X a) (Run X b) (Run X c) σ H (PostE X.K F0 T F σ Q) := by
  refine (h F0 T F H σ lk S).mono fun va H1 ⟨x, r1, G1, F1, e1, S1, k1, h1⟩ => ?_
  obtain ⟨F1', e1', S1', hv⟩ := hold S1 k1
  refine (h1 F0 T F1' H1 σ lk S1').mono fun vb H2 ⟨y, r2, G2, F2, e2, S2, k2, da, db, q1, q2, q3⟩ => ?_
  obtain ⟨F2', e2', S2', hw⟩ := hold S2 k2
  obtain ⟨rr, h3, h4⟩ := q3 F0 T F2' G2 H2 r2 σ va vb S2' (hv F2' G2 H2 r2 da (e2.trans e2') S2' q1) (hw F2' G2 H2 r2 db (Ex.refl _) S2' q2)
  refine ⟨_, (show OpR X (compareOp op) (fun u w H Q' => rr u w H _ ∧ ∀ v H', _ → Q' v H') from fun pins s σ H x y v u Q' I rx ry ⟨q, m⟩ => wpAny_mono (h3 pins s σ H x y v u _ I rx ry q) (fun _ _ ⟨v, H', I', rl, q⟩ => ⟨v, H', I', rl, m v H' q⟩) fun _ _ x => x), h4, fun v H3 ⟨z, F3, e3, S3, k3, k, hz, m1, m2⟩ => ?_⟩
  subst hz
  refine ⟨k, k3, ?_⟩
  cases k with
  | false =>
    rw [if_neg Bool.false_ne_true]
    exact ⟨.sh (.bl false), r2, G2, F3, (((e1.trans e1').trans e2).trans e2').trans e3, S3, rfl, m2 rfl⟩
  | true =>
    rw [if_pos rfl]
    refine (m1 rfl F0 T F3 H3 σ lk S3).mono fun vc H4 ⟨w, r3, G3, F4, e4, S4, k4, db', dc, n1, n2, n3⟩ => ?_
    obtain ⟨rr2, h5, h6⟩ := n3 F0 T F4 G3 H4 r3 σ vb vc S4 (hw F4 G3 H4 r3 db' (e3.trans e4) S4 n1) (S4.viewR k4 n2)
    exact ⟨_, (show OpR X (compareOp op') (fun u w H Q' => rr2 u w H _ ∧ ∀ v H', _ → Q' v H') from fun pins s σ H x y v u Q' I rx ry ⟨q, m⟩ => wpAny_mono (h5 pins s σ H x y v u _ I rx ry q) (fun _ _ ⟨v, H', I', rl, q⟩ => ⟨v, H', I', rl, m v H' q⟩) fun _ _ x => x), h6, fun v H' ⟨z, F', l1, l2, l3, l4⟩ => ⟨z, r3, G3, F', (((((e1.trans e1').trans e2).trans e2').trans e3).trans e4).trans l1, l2, l3, l4⟩⟩
theorem we_chain {op op' : CmpOp} {Q : Res → Env2 → GD → Prop}
    (h : WE X a r G fun x r1 G1 => WE X b r1 G1 fun y r2 G2 => ∃ da db, VwR r2 G2 x da ∧ VwR r2 G2 y db ∧ OpW X (compareOp op) da db fun z => ∃ k, z = .sh (.bl k) ∧ (k = true → WE X c r2 G2 fun w r3 G3 => ∃ db' dc, VwR r3 G3 y db' ∧ VwR r3 G3 w dc ∧ OpW X (compareOp op') db' dc fun u => Q u r3 G3) ∧ (k = false → Q (.sh (.bl false)) r2 G2))
    (hm : lastMarks [op, op'] [b, c] = false := by with_unfolding_all rfl) : WE X (.Compare a [op, op'] [b, c] pos) r G Q := fun F0 T F H σ lk S => Run.of (pe_chain (opU_ok _) (opU_ok _) peR peR peR hm) (chain lk S h)
/-- lo <= x <= hi on ints -/
theorem we_chainI {op op' : CmpOp} {p q : Int → Int → Bool} {Q : Res → Env2 → GD → Prop} (ho : ∀ (i j : Int) (R : Res → Prop), R (.sh (.bl (p i j))) → OpW X (compareOp op) (.int i) (.int j) R) (ho' : ∀ (i j : Int) (R : Res → Prop), R (.sh (.bl (q i j))) → OpW X (compareOp op') (.int i) (.int j) R)
    (h : WE X a r G fun x r1 G1 => WE X b r1 G1 fun y r2 G2 => ∃ i j k, vw r2 x = some (.int i) ∧ vw r2 y = some (.int j) ∧ (p i j = true → WE X c r2 G2 fun w r3 G3 => r3 = r2 ∧ G3 = G2 ∧ vw r3 w = some (.int k)) ∧ Q (.sh (.bl (p i j && q j k))) r2 G2)
    (hm : lastMarks [op, op'] [b, c] = false := by with_unfolding_all rfl) : WE X (.Compare a [op, op'] [b, c] pos) r G Q :=
  we_chain (h.mono fun x r1 G1 h1 => h1.mono fun y r2 G2 ⟨i, j, k, q1, q2, q3, q4⟩ => ⟨_, _, .inl q1, .inl q2, ho i j _ ⟨p i j, rfl, fun hp => (q3 hp).mono fun w r3 G3 ⟨m1, m2, m3⟩ => ⟨_, _, .inl (by rw [m1]; exact q2), .inl m3, ho' j k _ (by subst m1 m2; rw [hp, Bool.true_and] at q4; exact q4)⟩, fun hp => by rw [hp, Bool.false_and] at q4; exact q4⟩⟩) hm
theorem wt_chainI {op op' : CmpOp} {p q : Int → Int → Bool} {Q : Bool → Env2 → GD → Prop} (ho : ∀ (i j : Int) (R : Res → Prop), R (.sh (.bl (p i j))) → OpW X (compareOp op) (.int i) (.int j) R) (ho' : ∀ (i j : Int) (R : Res → Prop), R (.sh (.bl (q i j))) → OpW X (compareOp op') (.int i) (.int j) R)
    (h : WE X a r G fun x r1 G1 => WE X b r1 G1 fun y r2 G2 => ∃ i j k, vw r2 x = some (.int i) ∧ vw r2 y = some (.int j) ∧ (p i j = true → WE X c r2 G2 fun w r3 G3 => r3 = r2 ∧ G3 = G2 ∧ vw r3 w = some (.int k)) ∧ Q (p i j && q j k) r2 G2)
    (hm : lastMarks [op, op'] [b, c] = false := by with_unfolding_all rfl) : WT X (.Compare a [op, op'] [b, c] pos) r G Q := fun F0 T F H σ lk S =>
  RunT.of (pt_chain (opU_ok _) (opU_ok _) peR peR peR hm) (by
    have base := we_chainI (pos := pos) (Q := isB Q) ho ho' (h.mono fun x r1 G1 h1 => h1.mono fun y r2 G2 ⟨i, j, k, q1, q2, q3, q4⟩ => ⟨i, j, k, q1, q2, q3, ⟨_, rfl, q4⟩⟩) hm
    have z := chain (Q := isB Q) lk S (h.mono fun x r1 G1 h1 => h1.mono fun y r2 G2 ⟨i, j, k, q1, q2, q3, q4⟩ => ⟨_, _, .inl q1, .inl q2, ho i j _ ⟨p i j, rfl, fun hp => (q3 hp).mono fun w r3 G3 ⟨m1, m2, m3⟩ => ⟨_, _, .inl (by rw [m1]; exact q2), .inl m3, ho' j k _ (by subst m1 m2; rw [hp, Bool.true_and] at q4; exact ⟨_, rfl, q4⟩)⟩, fun hp => by rw [hp, Bool.false_and] at q4; exact ⟨_, rfl, q4⟩⟩⟩)
    refine Run.mono z fun va H1 z1 => Run.mono z1 fun vb H2 ⟨rr, h3, h4⟩ => ⟨_, (show OpR X (compareOp op) (fun u w H Q' => rr u w H _ ∧ ∀ v H', _ → Q' v H') from fun pins s σ H x y v u Q' I rx ry ⟨q, m⟩ => wpAny_mono (h3 pins s σ H x y v u _ I rx ry q) (fun _ _ ⟨v, H', I', rl, q⟩ => ⟨v, H', I', rl, m v H' q⟩) fun _ _ x => x), h4, fun v H3 ⟨k, hk, hz⟩ => ⟨k, hk, ?_⟩⟩
    cases k with
    | false => rw [if_neg Bool.false_ne_true] at hz ⊢; exact postB hz
    | true =>
      rw [if_pos rfl] at hz ⊢
      refine Run.mono hz fun vc H4 ⟨rr2, h5, h6⟩ => ⟨_, (show OpR X (compareOp op') (fun u w H Q' => rr2 u w H _ ∧ ∀ v H', _ → Q' v H') from fun pins s σ H x y v u Q' I rx ry ⟨q, m⟩ => wpAny_mono (h5 pins s σ H x y v u _ I rx ry q) (fun _ _ ⟨v, H', I', rl, q⟩ => ⟨v, H', I', rl, m v H' q⟩) fun _ _ x => x), h6, fun v H' z' => postB z'⟩)
theorem ww_orB {Q : Bool → Env2 → GD → Prop} (h : WT X a r G fun c1 r1 G1 => ∃ c2, (c1 = false → WW X (.BoolOp .Or (b :: es) pos) r1 G1 fun d r2 G2 => d = c2 ∧ r2 = r1 ∧ G2 = G1) ∧ Q (c1 || c2) r1 G1) : WW X (.BoolOp .Or (a :: b :: es) pos) r G Q :=
  ww_or (h.mono fun c1 r1 G1 ⟨c2, h1, h2⟩ => ⟨fun hc => fun F0 T F H σ lk S w pins s I => wpAny_mono (h1 hc F0 T F H σ lk S w pins s I) (fun _ _ ⟨H', I', r', G', F', k1, k2, k3, k4, k5⟩ => ⟨H', I', r', G', F', k1, k2, by subst k3 k4 k5; rw [hc, Bool.false_or] at h2; exact h2⟩) fun _ _ x => x, fun hc => by rw [hc, Bool.true_or] at h2; exact h2⟩)
structure Cal (P : Program) (w : World) (K : PySem.W.Frag) (mg : Str → Option Value) (base : Heap) (x : Str) (k : Nat) (ps : List Str) (sp : FSp) : Prop where
  ex : ∃ (f : Addr) (fd : FuncData), FnOk P w K mg base (CX P w) k f fd ps (spD K sp) ∧ mg x = some (.ref f) ∧ PySem.W.keepIn K (.ref f) = true ∧ Binds K fd ps []
theorem we_cal {x : Str} {k j : Nat} {ps : List Str} {sp : FSp} {Q : Res → Env2 → GD → Prop} (tk : X.Tk) (C : Cal X.prog X.w X.K X.mg X.base x k ps sp) (hr : Room j X.A) (hg : Gl X x) (h : WA X (e :: es) r G fun ds r1 G1 => sp ds G1 (fun z G2 => Q z r1 G2) (fun x G2 => X.QX x r1 G2)) (hj : k ≤ j := by omega)
    (hdb : (x == ("__debug__" : Str)) = false := by decide) (he : starEach (e :: es) X.env = (false, eval e X.env) :: starEach es X.env := by rfl) (hpl : (backTo pos (starEach es X.env)).any (·.1) = false := by rfl) : WE X (.Call (.Name x p0) (e :: es) [] pos) r G Q := by
  obtain ⟨f, fd, h1, h2, h3, h4⟩ := C.ex
  exact we_call tk h1 (hr.mono hj) hg h2 h3 h4 h hdb he hpl
structure PropD (P : Program) (w : World) (K : PySem.W.Frag) (mg : Str → Option Value) (base : Heap) (C : Addr) (f : Str) (k : Nat) (sp : FSp) : Prop where
  ex : ∃ (p g : Addr) (fd : FuncData), PySem.W.findIn K (.ref C) f = some (some (.ref p)) ∧ PySem.W.specialIn K (.ref p) "__get__" = some (some (.builtin "property.__get__")) ∧ PySem.W.takesIn K (.ref p) = some true ∧ (∃ rest, PySem.W.recIn K p "property" = some (.ref g :: rest)) ∧
    FnOk P w K mg base (CX P w) k g fd ["self"] (spD K sp) ∧ Binds K fd ["self"] []
theorem fnr {P : Program} {w : World} {K : PySem.W.Frag} {mg : Str → Option Value} {base : Heap} {CX : CXT} {k : Nat} {f : Addr} {fd : FuncData} {ps : List Str} {sp : Sp} (F : FnOk P w K mg base CX k f fd ps sp) (hb : Binds K fd ps []) : FnR P w K mg base CX k f sp :=
  (F.raw hb .nil).imp fun vs H Q E h => by rw [List.append_nil]; exact h
/-- a promise met from a state, no exception leaves -/
theorem spD_of0 {F0 T F F1 H : Hp} {σ : L2.St} {sp : FSp} {ds : List D} {vs : List V} {Q : Res → Env2 → GD → Prop} (S : Sta X.K F0 T F1 G H r σ) (e1 : Ex F F1) (ha : RepL X.K F1 ds vs) (h : sp ds G (fun z G2 => Q z r G2) (fun _ _ => False)) : spD X.K sp vs H (PostE X.K F0 T F σ Q) (fun _ _ _ => False) :=
  ⟨F1, G, ds, _, _, S.bas.fh, S.bas.gh, S.bas.fg, ha, h, fun x G' v H' F' hp B rt => ⟨x, r, G', F', e1.trans B.ff, S.after B, ResOk.after S B rt, hp⟩, fun x cls d G' H' F' hp B ex => hp⟩
theorem we_prop {f : Str} {C : Addr} {k j : Nat} {sp : FSp} {Q : Res → Env2 → GD → Prop} (c : SlX.SCls X.K C) (p : PropD X.prog X.w X.K X.mg X.base C f k sp) (hr : Room j X.A) (h : WE X e r G fun x r1 G1 => ∃ ds, vw r1 x = some (.ins C ds) ∧ sp [.ins C ds] G1 (fun z G2 => Q z r1 G2) (fun _ _ => False)) (hj : k + 1 ≤ j := by omega)
    (hb : attributeBase e f X.env (eval e X.env) = eval e X.env := by rfl) : WE X (.Attribute e f pos) r G Q := fun F0 T F H σ lk S => by
  obtain ⟨pa, g, fd, h1, h2, h3, h4, h5, h6⟩ := p.ex
  refine Run.of (SlX.pe_propSl (E := fun _ _ _ => False) peR c h1 h2 h3 h4 (fnr h5 h6) (hr.mono hj) (fun _ _ _ _ ⟨_, _, _, _, _, _, _, _, _, _, _, _, z⟩ => z) hb) ((h F0 T F H σ lk S).mono fun v H1 ⟨x, r1, G1, F1, e1, S1, k1, ds, q1, q2⟩ => ?_)
  obtain ⟨F1', e1', S1', hv⟩ := hold S1 k1
  have vv := hv F1' G1 H1 r1 _ (Ex.refl _) S1' (.inl q1)
  have rp : Rep X.K F1' (.ins C ds) v := by
    rcases vv with z | ⟨_, _, z⟩
    · exact z
    · exact z.elim
  obtain ⟨a, dx, vs, rfl, z1, z2⟩ := vv.ins S1'.bas.fh
  exact ⟨a, dx, vs.map some, rfl, z1, spD_of0 S1' (e1.trans e1') (.one rp) q2⟩
/-- a slot is read -/
theorem we_fld {f : Str} {C p : Addr} (i : Nat) {Q : Res → Env2 → GD → Prop} (c : SlX.SCls X.K C) (t : SlX.Slot1 X.K C f p i) (h : WE X e r G fun x r1 G1 => ∃ ds d, vw r1 x = some (.ins C ds) ∧ ds[i]? = some d ∧ Q (.sh d) r1 G1)
    (hb : attributeBase e f X.env (eval e X.env) = eval e X.env := by rfl) : WE X (.Attribute e f pos) r G Q := fun F0 T F H σ lk S => by
  refine Run.of (SlX.pe_sl peR hb) ((h F0 T F H σ lk S).mono fun v H1 ⟨x, r1, G1, F1, e1, S1, k1, ds, d, q1, q2, q3⟩ => ?_)
  obtain ⟨a, dx, vs, rfl, z1, z2⟩ := (S1.view k1 q1).ins S1.bas.fh
  obtain ⟨w, y1, y2⟩ := z2.get q2
  exact ⟨a, C, dx, p, vs.map some, i, w, rfl, z1, c, t, by rw [List.getElem?_map, y1]; rfl, .sh d, r1, G1, F1, e1, S1, y2, q3⟩
structure MethD (P : Program) (w : World) (K : PySem.W.Frag) (mg : Str → Option Value) (base : Heap) (C : Addr) (m : Str) (k : Nat) (ps : List Str) (sp : FSp) : Prop where
  ex : ∃ (g : Addr) (fd : FuncData), Meth K C m g ∧ FnOk P w K mg base (CX P w) k g fd ps (spD K sp) ∧ Binds K fd ps []
/-- as HandS.Slots' own, the wish by the slots -/
theorem run_fnRS {X : Cx} {CX : CXT} {k : Nat} {f : Addr} {sp : Sp} {E : L2.St → XK} {pins : List (Addr × Obj)} {σ : L2.St} {H : Hp} {s : Shared} {Q : VK} {us : List Value} {vs : List V} (F : FnR X.prog X.w X.K X.mg X.base CX k f sp) (hr : Room k X.A) (hx : PassesAt CX X σ (E σ)) (I : Inv X pins σ H s) (r : Vals vs us) (q : sp vs H Q (E σ)) :
    wpAny (model X.prog X.w) X.A (call (.ref f) us) (EP X pins σ Q) X.xe s := by
  refine wpAny_call (codeAny_mono (F X.A X.stack s H us vs Q (E σ) hr I.env0 r q) fun r s' hq => ?_)
  cases r with
  | error e => exact hx pins H s e s' I hq
  | ok fl =>
    cases fl with
    | ret u => exact I.after hq
    | next => exact False.elim hq
    | brk => exact False.elim hq
    | cont => exact False.elim hq
/-- the class of data, as far as isinstance asks -/
def tyD : D → Option Value
  | .non => some (.type "NoneType")
  | .bl _ => some (.type "bool")
  | .int _ => some (.type "int")
  | .str _ => some (.type "str")
  | .tup _ => some (.type "tuple")
  | .lst _ => some (.type "list")
  | .dic _ _ => some (.type "dict")
  | _ => none
theorem tyX_of {K : PySem.W.Frag} {F H : Hp} {d : D} {v : V} {t : Value} (ex : Ex F H) (h : Vw K F H d v) (e : tyD d = some t) : TyX K H v t := by
  cases d with
  | non => cases e; cases h.non; exact .base .non
  | bl b => cases e; cases h.bl; exact .base (.bl b)
  | int b => cases e; cases h.int; exact .base (.int b)
  | str b => cases e; cases h.str; exact .base (.str b)
  | tup ds =>
    cases e
    obtain ⟨a, vs, rfl, z1, _⟩ := h.tup ex
    rcases z1 with (z | ⟨ob, z⟩) | ⟨ob, its, n, z, zc, _⟩
    · exact .base (.tup z)
    · exact .fTuple z
    · exact .kTuple z zc
  | lst ds =>
    cases e
    obtain ⟨a, vs, rfl, z1, _⟩ := h.lst ex
    rcases z1 with z | ⟨ob, z⟩
    · exact .base (.lst z)
    · exact .base (.frz z)
  | dic ks ds =>
    cases e
    obtain ⟨a, vs, rfl, z1, _⟩ := h.dic ex
    rcases z1 with z | ⟨ob, z⟩
    · exact .base (.dK z)
    · exact .fDict z
  | ins C ds => cases e
  | adr a => cases e
  | obj _ _ _ => cases e
  | slo _ _ _ _ => cases e
  | xdo _ _ => cases e
  | scr _ => cases e
  | tab _ => cases e
  | hob _ _ => cases e
  | kd _ _ _ => cases e
/-- isinstance(x, T), T a built-in class -/
theorem we_isi {x y : Str} {n : String} {py : Pos} {Q : Res → Env2 → GD → Prop} (hg : Gl X x) (hm : X.mg x = none) (hv : bootBuiltins x = some (.builtin "isinstance")) (hg2 : Gl X y) (hm2 : X.mg y = none) (hv2 : bootBuiltins y = some (.type n))
    (h : WE X a r G fun z r1 G1 => ∃ d t c, VwR r1 G1 z d ∧ tyD d = some t ∧ PySem.W.kitOne X.K t (.type n) = some c ∧ Q (.sh (.bl c)) r1 G1)
    (hn : x ≠ "__name__" := by decide) (hdb : (x == ("__debug__" : Str)) = false := by decide) (hn2 : y ≠ "__name__" := by decide) (hdb2 : (y == ("__debug__" : Str)) = false := by decide)
    (he : starEach [a, .Name y py] X.env = (false, eval a X.env) :: starEach [.Name y py] X.env := by rfl) (he2 : starEach [.Name y py] X.env = (false, eval (.Name y py) X.env) :: starEach [] X.env := by rfl) (hpl : (backTo pos (starEach [.Name y py] X.env)).any (·.1) = false := by rfl) :
    WE X (.Call (.Name x p0) [a, .Name y py] [] pos) r G Q := fun F0 T F H σ lk S =>
  Run.of (pe_callB call_isi hg hm hv (pa_cons peR (pa_cons (pe_bltn (v := .ty n) hg2 hm2 hv2 rfl hn2 hdb2) pa_nil he2) he) hn hdb he hpl) ((h F0 T F H σ lk S).mono fun v H1 ⟨z, r1, G1, F1, e1, S1, k1, d, t, c, q1, q2, q3, q4⟩ =>
    ⟨v, .ty n, t, .type n, c, rfl, .ty n, tyX_of S1.bas.fh (S1.viewR k1 q1) q2, q3, .sh (.bl c), r1, G1, F1, e1, S1, rfl, q4⟩)
abbrev FSpI := List D → GD → (List D → GD → Prop) → (Exn → GD → Prop) → Prop
def spI (K : PySem.W.Frag) (C : Addr) (f : FSpI) : Sp := fun vs H Q E => ∃ (x dx : Addr) (us : List V) (F : Hp) (G : GD) (ds : List D) (post : List D → GD → Prop) (px : Exn → GD → Prop), vs = .ref x :: us ∧ H x = some (.ins C dx []) ∧ H dx = some (.own x) ∧ dx ≠ x ∧ F x = none ∧ F dx = none ∧ G x = none ∧ G dx = none ∧
  Ex F H ∧ (∀ a d, G a = some d → Own K F H a d) ∧ (∀ a o, G a = some o → F a = none) ∧ RepL K F ds us ∧ f ds G post px ∧
  (∀ ys G' H' F', post ys G' → Bas K F (fun a => if a = x ∨ a = dx then none else Tof G H a) F' G' H' → Rep K F' (.ins C ys) (.ref x) → Q .non H') ∧
  ∀ xn cls d G' H' F', px xn G' → Bas K F (fun a => if a = x ∨ a = dx then none else Tof G H a) F' G' H' → ExOk K F' cls d xn → E cls d H'
structure MakeD (P : Program) (w : World) (K : PySem.W.Frag) (mg : Str → Option Value) (base : Heap) (x : Str) (C : Addr) (k : Nat) (ps : List Str) (f : FSpI) : Prop where
  ex : ∃ (g : Addr) (fd : FuncData), Mk K C g ∧ mg x = some (.ref C) ∧ FnOk P w K mg base (CX P w) k g fd ps (spI K C f) ∧ Binds K fd ps []
def tMakeS (C : Addr) (sp : Sp) (E : L2.St → XK) (t : TA) : TE := fun σ H Q => t σ H fun vs H1 => ∀ x dx, H1 x = none → H1 dx = none → dx ≠ x →
  sp (.ref x :: vs) (upd (upd H1 dx (.own x)) x (.ins C dx [])) (fun v H2 => v = .non ∧ Q (.ref x) H2) (E σ)
theorem run_makeS {X : Cx} {CX : CXT} {k : Nat} {f C : Addr} {fd : FuncData} {ps : List Str} {sp : Sp} {E : L2.St → XK} {pins : List (Addr × Obj)} {σ : L2.St} {H : Hp} {s : Shared} {Q : VK} {us : List Value} {vs : List V} (M : Mk X.K C f) (F : FnOk X.prog X.w X.K X.mg X.base CX k f fd ps sp) (hr : Room (k + 1) X.A) (hb : Binds X.K fd ps [])
    (hx : PassesAt CX X σ (E σ)) (I : Inv X pins σ H s) (r : Vals vs us)
    (h : ∀ x dx, H x = none → H dx = none → dx ≠ x → sp (.ref x :: vs) (upd (upd H dx (.own x)) x (.ins C dx [])) (fun v H2 => v = .non ∧ Q (.ref x) H2) (E σ)) :
    wpAny (model X.prog X.w) X.A (call (.ref C) us) (EP X pins σ Q) X.xe s := by
  have hq := h (s.heap.objs.size + 1) s.heap.objs.size (I.hok.fresh (Nat.le_succ _)) (I.hok.fresh (Nat.le_refl _)) (Nat.ne_of_lt (Nat.lt_succ_self _))
  have I2 := Inv.made (C := C) I
  have r2 : Vals (V.ref (s.heap.objs.size + 1) :: vs) (Value.ref (s.heap.objs.size + 1) :: us) := .cons rfl r
  have hl : (Value.ref (s.heap.objs.size + 1) :: us ++ []).length = ps.length := by
    rw [List.append_nil]
    have e := r2.length
    rw [F.len _ _ _ _ hq] at e
    exact e.symm
  have hbb := hb _ (Value.ref (s.heap.objs.size + 1) :: us) I2.kIn hl
  rw [List.append_nil] at hbb
  refine wpAny_call (make_map (f := f) I.kIn M.makes M.init (beq_iff_eq.mp M.fn) (codeAny_mono (F.run _ X.stack _ _ ⟨Value.ref (s.heap.objs.size + 1) :: us, []⟩ (Value.ref (s.heap.objs.size + 1) :: us) _ _ (E σ) (hr.make C us [])
    (I2.env0.make C us []) hbb r2 hq) fun r s' hq' => ?_))
  cases r with
  | error e => exact hx pins _ _ e s' I2 hq'
  | ok fl =>
    cases fl with
    | ret u =>
      obtain ⟨v, H', I3, rv, ev, q3⟩ := I2.after hq'
      subst ev
      exact ⟨rv, ⟨V.ref (s.heap.objs.size + 1), H', I3, rfl, q3⟩⟩
    | next => exact False.elim hq'
    | brk => exact False.elim hq'
    | cont => exact False.elim hq'
theorem pe_makeS {X : Cx} {CX : CXT} {k : Nat} {f C : Addr} {fd : FuncData} {ps : List Str} {sp : Sp} {E : L2.St → XK} {x : Str} {p : Pos} {t : TA} (M : Mk X.K C f) (F : FnOk X.prog X.w X.K X.mg X.base CX k f fd ps sp) (hr : Room (k + 1) X.A) (hg : Gl X x) (hm : X.mg x = some (.ref C)) (hb : Binds X.K fd ps []) (hx : ∀ σ, PassesAt CX X σ (E σ))
    (ha : PA X (e :: es) t) (hdb : (x == ("__debug__" : Str)) = false := by decide) (he : starEach (e :: es) X.env = (false, eval e X.env) :: starEach es X.env := by rfl) (hpl : (backTo pos (starEach es X.env)).any (·.1) = false := by rfl) :
    PE X (.Call (.Name x p) (e :: es) [] pos) (tMakeS C sp E t) := by
  refine ⟨fun pins s σ H Q I h => ?_⟩
  refine wpAny_Call_Name_kw (ld_glob I hg hm ?_ hdb)
  refine PySem.W.callWith_K (h₀ := X.base) I.ok.mod.kin M.kp (thn (ha.run pos pins s σ H _ I h) fun us s1 ⟨vs, H1, I1, r, q⟩ => ⟨I1.kIn, ?_⟩) he hpl
  exact run_makeS M F hr hb (hx σ) I1 r q
theorem make_base {K : PySem.W.Frag} {F1 F' H1 H' : Hp} {G1 G' : GD} {ad dx C : Addr} (ha : H1 ad = none) (hd : H1 dx = none) (ex1 : Ex H1 (upd (upd H1 dx (.own ad)) ad (.ins C dx [])))
    (B : Bas K F1 (fun a => if a = ad ∨ a = dx then none else Tof G1 (upd (upd H1 dx (.own ad)) ad (.ins C dx [])) a) F' G' H') : Bas K F1 (Tof G1 H1) F' G' H' := by
  have sub : ∀ q u, Tof G1 H1 q = some u → (if q = ad ∨ q = dx then none else Tof G1 (upd (upd H1 dx (.own ad)) ad (.ins C dx [])) q) = some u := fun q u hq => by
    have hG : G1 q = none := by
      cases eg : G1 q with
      | none => rfl
      | some o => rw [Tof_some eg] at hq; cases hq
    rw [Tof_none hG] at hq
    have n1 : q ≠ ad := ne_of_none hq ha
    have n2 : q ≠ dx := ne_of_none hq hd
    rw [if_neg (by simp [n1, n2]), Tof_none hG]
    exact ex1 q u hq
  have down : ∀ q, (if q = ad ∨ q = dx then none else Tof G1 (upd (upd H1 dx (.own ad)) ad (.ins C dx [])) q) = none → Tof G1 H1 q = none := fun q z => by
    cases et : Tof G1 H1 q with
    | none => rfl
    | some w => rw [sub q w et] at z; cases z
  exact ⟨B.ff, fun q u hq => (B.ft q u hq).imp id (down q), B.fh, B.gh, B.fg, fun q u hq => down q (B.gt q u hq), fun q u hq => B.tk q u (sub q u hq)⟩
theorem we_make {x : Str} {C : Addr} {k j : Nat} {ps : List Str} {f : FSpI} {Q : Res → Env2 → GD → Prop} (tk : X.Tk) (M : MakeD X.prog X.w X.K X.mg X.base x C k ps f) (hr : Room j X.A) (hg : Gl X x) (h : WA X (e :: es) r G fun ds r1 G1 => f ds G1 (fun ys G2 => Q (.sh (.ins C ys)) r1 G2) (fun xn G2 => X.QX xn r1 G2)) (hj : k + 1 ≤ j := by omega)
    (hdb : (x == ("__debug__" : Str)) = false := by decide) (he : starEach (e :: es) X.env = (false, eval e X.env) :: starEach es X.env := by rfl) (hpl : (backTo pos (starEach es X.env)).any (·.1) = false := by rfl) : WE X (.Call (.Name x p0) (e :: es) [] pos) r G Q := fun F0 T F H σ lk S => by
  obtain ⟨g, fd, h1, h2, h3, h4⟩ := M.ex
  refine Run.of (pe_makeS h1 h3 (hr.mono hj) hg h2 h4 (fun σ => passAt tk σ) paR hdb he hpl) ((h F0 T F H σ lk S).mono fun vs H1 ⟨ds, r1, G1, F1, e1, S1, k1, q1⟩ => ?_)
  intro ad dx ha hd hne
  obtain ⟨f1, f2, f3⟩ := S1.bas.freshF ha
  obtain ⟨g1, g2, g3⟩ := S1.bas.freshF hd
  have ex1 : Ex H1 (upd (upd H1 dx (.own ad)) ad (.ins C dx [])) := fun q u hq => by
    rw [upd_ne (ne_of_none hq ha), upd_ne (ne_of_none hq hd)]; exact hq
  refine ⟨ad, dx, vs, F1, G1, ds, _, _, rfl, upd_same, by rw [upd_ne hne, upd_same], hne, f1, g1, f2, g2, S1.bas.fh.trans ex1, S1.bas.gmono (Ex.refl _) fun a o _ h => ex1 a o h, S1.bas.fg, k1, q1, fun ys G' H' F' hp B rp => ⟨rfl, ?_⟩, fun xn cls d G' H' F' hp B ex => ?_⟩
  · have B' := make_base ha hd ex1 B
    exact ⟨.sh (.ins C ys), r1, G', F', e1.trans B'.ff, S1.after B', rp, hp⟩
  · have B' := make_base ha hd ex1 B
    exact ⟨r1, G', F', xn, lk.sta (S1.after B'), ex, hp⟩
/-- a block, then statements by hand -/
theorem execs_app (env : Env) (post : List Stmt) : ∀ pre : List Stmt, execs (pre ++ post) env = execs pre env >>= fun f => match f with
    | .next => execs post env
    | f => pure f
  | [] => by
    rw [List.nil_append, execs, pure_bind]
  | st :: pre => by
    rw [List.cons_append, execs, execs, bind_assoc]
    congr 1
    funext f
    cases f with
    | next => exact execs_app env post pre
    | brk => rw [pure_bind]
    | cont => rw [pure_bind]
    | ret v => rw [pure_bind]
theorem runB_then {pre post : List Stmt} {E : Ends} {σ : L2.St} {H : Hp} (h : RunB X pre { E with nx := fun σ' H' => RunB X post E σ' H' } σ H) : RunB X (pre ++ post) E σ H := fun pins s I => by
  rw [execs_app]
  refine wpAny_bind (wpAny_mono (h pins s I) (fun f s' q => ?_) fun _ _ x => x)
  cases f with
  | next => obtain ⟨σ', H', I', q⟩ := q; exact q pins s' I'
  | brk => exact wpAny_pure q
  | cont => exact wpAny_pure q
  | ret v => exact wpAny_pure q
end
theorem bt_len : bootBuiltins "len" = some (.builtin "len") := by decide +kernel
theorem bt_int : bootBuiltins "int" = some (.type "int") := by decide +kernel
theorem bt_list : bootBuiltins "list" = some (.type "list") := by decide +kernel
theorem bt_tuple : bootBuiltins "tuple" = some (.type "tuple") := by decide +kernel
theorem bt_dict : bootBuiltins "dict" = some (.type "dict") := by decide +kernel
theorem bt_bool : bootBuiltins "bool" = some (.type "bool") := by decide +kernel
theorem bt_str : bootBuiltins "str" = some (.type "str") := by decide +kernel
theorem bt_sorted : bootBuiltins "sorted" = some (.builtin "sorted") := by decide +kernel
theorem bt_isinstance : bootBuiltins "isinstance" = some (.builtin "isinstance") := by decide +kernel
theorem bt_abs : bootBuiltins "abs" = some (.builtin "abs") := by decide +kernel
theorem bt_max : bootBuiltins "max" = some (.builtin "max") := by decide +kernel
section
variable {prog : Program} {w : World} {A : Around} {E : Value → Shared → Prop} {s : Shared}
abbrev tIt (t : Addr) : Obj := { cls := .type "tuple_iterator", data := .fields #[.ref t, .int 0 0] }
abbrev enO (i : Addr) : Obj := { cls := .type "enumerate", data := .fields #[.none, .bool false, .ref i, rawInt 0, .none, .none] }
theorem meets_enumT (t : Addr) (its : Array Value) (o : Obj) (n : Nat) (ho : o.cls = .type "tuple" ∧ o.data = .seq its n) :
    Meets (Builtin.«enumerate.__new__» ⟨[.type "enumerate", .ref t], []⟩) (fun _ R s => s.heap.get? t = some o ∧
      R (.ok (.ret (.ref (s.heap.push (tIt t)).objs.size))) { s with heap := (s.heap.push (tIt t)).push (enO s.heap.objs.size) }) :=
  .of_wp fun prog w A R s h => by
    obtain ⟨c, dc, dt, sl⟩ := o
    obtain ⟨h1, h2⟩ := ho
    cases h1
    obtain ⟨hp, g, d, tk, os⟩ := s; obtain ⟨hl, h⟩ := h
    have sub := sub_enumerate
    have tup : Heap.IsTuple (Shared.heap ⟨hp, g, d, tk, os⟩) t its := ⟨_, hl, rfl, _, h2⟩
    wp_walk using AutoSeq1.wpAny_loadPart' hl
    refine wpAny_stack_any fun st => wpAny_pure ?_
    split
    · rename_i c _ _ _ _ _
      cases (c == Value.type "enumerate")
      all_goals
        wp_walk using AutoSeq1.wpAny_loadPart' hl, wpAny_pyIter_tuple tup
        exact ⟨_, rfl, h⟩
    · wp_walk using AutoSeq1.wpAny_loadPart' hl, wpAny_pyIter_tuple tup
      exact ⟨_, rfl, h⟩
theorem callEnumT {t : Addr} {its : Array Value} {Q : Value → Shared → Prop} (ht : s.heap.IsTuple t its)
    (h : ∀ h', IsEnum h' (s.heap.objs.size + 1) s.heap.objs.size 0 .none → h'.IsTupleIter s.heap.objs.size t 0 → (∀ b o, s.heap.get? b = some o → h'.get? b = some o) → Q (.ref (s.heap.objs.size + 1)) { s with heap := h' }) :
    wpAny (model prog w) A (call (.type "enumerate") [.ref t]) Q E s := by
  obtain ⟨o, ho, hc, n, hd⟩ := ht
  refine callType_new F.called_enumerate (by decide) (F.typeCall_enumerate_1 _) (F.newCall_enumerate_1 _) (fun obj => F.args_object_init_2 obj _) F.entry_enumerate_new (meets_enumT t its o n ⟨hc, hd⟩) ⟨ho, ?_⟩
  have z : (s.heap.push (tIt t)).objs.size = s.heap.objs.size + 1 := Heap.size_push ..
  show _ ∧ _
  rw [z]
  have he : IsEnum ((s.heap.push (tIt t)).push (enO s.heap.objs.size)) (s.heap.objs.size + 1) s.heap.objs.size 0 .none := by
    have q := Heap.get?_push_size (s.heap.push (tIt t)) (o := enO s.heap.objs.size) rfl
    rw [z] at q
    exact q
  exact ⟨⟨_, he, rfl⟩, h _ he ⟨_, Heap.get?_push_of_some _ (Heap.get?_push_size _ rfl), rfl, rfl⟩ fun b o x => Heap.get?_push_of_some _ (Heap.get?_push_of_some _ x)⟩
end
/-- the tuple at a, each item in a new pair -/
def ItU (K : PySem.W.Frag) (a : Addr) : It :=
  ⟨fun i H => ∃ (xs : List V) (x : V), SqT K H a xs ∧ xs[i]? = some x, fun i H v H' => ∃ T x, v = .ref T ∧ H T = none ∧ H' = upd H T (.tup [.int (i : Nat), x]) ∧ ∀ xs, SqT K H a xs → xs[i]? = some x, fun i H => ∃ xs : List V, SqT K H a xs ∧ xs.length = i⟩
theorem turn_enumT {P : Program} {w : World} {K : PySem.W.Frag} {elts : List Expr} {kk : Nat} {tpos : Pos} (a e it : Addr) (hae : a ≠ e) (hai : a ≠ it) :
    Turn P w K (.Tuple elts kk tpos) (ItU K a) [e, it] e (fun i h => (∃ old, IsEnum h e it ((i : Nat) : Int) old) ∧ h.IsTupleIter it a i ∧ e ≠ it) where
  mem := by simp
  obj := fun i h st b hb => by
    obtain ⟨⟨old, he⟩, ⟨o, ho, hc, hd⟩, _⟩ := st
    rcases (by simpa using hb : b = e ∨ b = it) with z | z
    · rw [z]; exact ⟨_, he, fun v q => nomatch q⟩
    · rw [z]; exact ⟨o, ho, fun v q => by rw [hd] at q; cases q⟩
  keep := fun i h h' ⟨⟨old, he⟩, hi, hne⟩ k => ⟨⟨old, k e (by simp) _ he⟩, hi.at fun o q => k it (by simp) o q, hne⟩
  item := by
    intro X hP hw hK hc i pins s σ H E I hf st hg
    subst hP hw hK
    obtain ⟨⟨old, he⟩, hit, hne⟩ := st
    obtain ⟨xs, x, hq, hx⟩ := hg
    obtain ⟨its, rv, p, hz⟩ := I.tuple hq
    obtain ⟨u, hu, ru⟩ := rv.get hx
    have hel : e < s.heap.objs.size := Heap.lt_size he
    have hil : it < s.heap.objs.size := by obtain ⟨_, q, _⟩ := hit; exact Heap.lt_size q
    have dr := Draws.tuple (prog := X.prog) (w := X.w) (A := X.A.in1) (I.ok.hd hc) it a hai its.toArray
    have lt : i < its.toArray.size := by
      have := (List.getElem?_eq_some_iff.mp hu).1
      simpa using this
    refine wpAny_pyNext_enum_itemD dr he ⟨hit, p⟩ lt hne (by simp [hne, hae.symm]) fun x' h' tk hv ho hit' hT hsz hk => ?_
    have ex : x' = u := by
      have : its[i]? = some x' := by simpa using hv
      rw [hu] at this; cases this; rfl
    subst ex
    refine ⟨_, rfl, wpAny_letOwnedTupleGo_enum (s := { s with heap := h', toks := tk + 1 }) ho fun h'' he' sb => ?_⟩
    have hT2 : h''.get? s.heap.objs.size = some { cls := .type "tuple", data := .seq #[.int i tk, x'] } := (sb.2 _ (Nat.ne_of_gt hel)).trans hT
    have new : ObjOk X.prog X.w (upd H s.heap.objs.size (.tup [.int (i : Nat), x])) h'' s.heap.objs.size (.tup [.int (i : Nat), x]) :=
      ⟨by show 2 ≤ sizeLine; decide, [.int i tk, x'], .cons ⟨_, rfl⟩ (.cons ru .nil), ⟨_, hT2, rfl, _, rfl⟩⟩
    have I1 : Inv X pins σ (upd H s.heap.objs.size (.tup [.int (i : Nat), x])) { s with heap := h'', toks := tk + 1 } :=
      I.turnedNew (ch := [e, it]) (fun b ob hb q => (sb.2 b (fun z => hb (by simp [z]))).trans (hk b ob (fun z => hb (by simp [z])) (fun z => hb (by simp [z])) q)) hf (Nat.le_refl _) new
    refine ⟨.ref s.heap.objs.size, _, I1, rfl, ⟨_, x, rfl, I.hok.fresh (Nat.le_refl _), rfl, fun ys hy => by rw [I.tuple_inj hy hq]; exact hx⟩, ⟨⟨x', he'⟩, hit'.1.at fun o q => (sb.2 it (Ne.symm hne)).trans q, hne⟩, fun b hb => ?_⟩
    have hb' : b < s.heap.objs.size := by
      rcases (by simpa using hb : b = e ∨ b = it) with z | z
      · rw [z]; exact hel
      · rw [z]; exact hil
    rw [upd_ne (Nat.ne_of_lt hb')]
    exact (hf b hb).1
  done := by
    intro X hP hw hK hc i pins s σ H E I hf st hg
    subst hP hw hK
    obtain ⟨⟨old, he⟩, hit, hne⟩ := st
    obtain ⟨xs, hq, hx⟩ := hg
    obtain ⟨its, rv, p, hz⟩ := I.tuple hq
    obtain ⟨f0, f1, f2, f3, f4, f5⟩ := hf it (by simp)
    have hl : its.toArray.size = i := by
      have := rv.length
      simp
      omega
    subst hl
    exact wpAny_pyNext_enum_endD (Draws.tuple (prog := X.prog) (w := X.w) (A := X.A.in1) (I.ok.hd hc) it a hai its.toArray) he ⟨hit, p⟩ fun h' eb => ⟨rfl, I.turned (t' := s.toks) (fun b o hb q => eb b o hb q) f0 f1 f3 f4 f5⟩
  self := fun A i s Q E ⟨⟨_, he⟩, _⟩ h => wpAny_pyIter_enum he h
def iEnumT (K : PySem.W.Frag) (ta : TA) : TI := fun σ H R => ta σ H fun vs H1 => ∃ a xs, vs = [.ref a] ∧ SqT K H1 a xs ∧ R (ItU K a) H1
theorem pi_enumT {X : Cx} {e : Expr} {ta : TA} {p pos tpos : Pos} {elts : List Expr} {kk : Nat} (hg : Gl X "enumerate") (hm : X.mg "enumerate" = none) (ha : PA X [e] ta) (hs : starEach [e] X.env = [(false, eval e X.env)] := by rfl) :
    PI X (.Tuple elts kk tpos) (.Call (.Name "enumerate" p) [e] [] pos) (iEnumT X.K ta) := by
  refine ⟨fun pins s σ H R I h => ?_⟩
  refine Call_ (ld_blt I hg hm boot_enumerate (PyProof.Rows.callWith_type1 (thn (ha.run pos pins s σ H _ I h) fun us s1 ⟨vs, H1, I1, r1, q1⟩ => ?_) hs rfl))
  obtain ⟨a, xs, ex, hq, q⟩ := q1
  subst ex
  cases r1 with
  | cons rl rr =>
    cases rr
    cases rl
    obtain ⟨its, rv, p', hz⟩ := I1.tuple hq
    have ha : a < s1.heap.objs.size := by obtain ⟨_, z, _⟩ := p'; exact Heap.lt_size z
    refine callEnumT (show s1.heap.IsTuple a its.toArray from p') fun h' he hit hk => wpAny_pyIter_enum he ?_
    refine ⟨s1.heap.objs.size + 1, [s1.heap.objs.size + 1, s1.heap.objs.size], _, _, H1, rfl, I1.kept (t' := s1.toks) hk, turn_enumT a (s1.heap.objs.size + 1) s1.heap.objs.size (Nat.ne_of_lt (Nat.lt_succ_of_lt ha)) (Nat.ne_of_lt ha), ⟨⟨.none, he⟩, hit, Nat.succ_ne_self _⟩, fun b hb => ?_, q⟩
    have hle : s1.heap.objs.size ≤ b := by
      rcases (by simpa using hb : b = s1.heap.objs.size + 1 ∨ b = s1.heap.objs.size) with z | z
      · rw [z]; exact Nat.le_succ _
      · rw [z]; exact Nat.le_refl _
    exact I1.fpOk hle (I1.hok.fresh hle)
def enumD (k : Nat) : List D → List D
  | [] => []
  | d :: ds => .tup [.int (k : Nat), d] :: enumD (k + 1) ds
theorem enumD_len : ∀ (ds : List D) (k : Nat), (enumD k ds).length = ds.length
  | [], _ => rfl
  | d :: ds, k => by unfold enumD; rw [List.length_cons, List.length_cons, enumD_len ds]
theorem enumD_get : ∀ {ds : List D} {k i : Nat} {x : D}, (enumD k ds)[i]? = some x → ∃ d, ds[i]? = some d ∧ x = .tup [.int ((k + i : Nat) : Int), d]
  | [], k, i, x, h => by simp [enumD] at h
  | d :: ds, k, 0, x, h => by
    unfold enumD at h
    simp at h
    exact ⟨d, rfl, h.symm⟩
  | d :: ds, k, i + 1, x, h => by
    unfold enumD at h
    rw [List.getElem?_cons_succ] at h
    obtain ⟨d', h1, h2⟩ := enumD_get h
    exact ⟨d', by rw [List.getElem?_cons_succ]; exact h1, by rw [h2, show k + 1 + i = k + (i + 1) by omega]⟩
theorem rep_pair {K : PySem.W.Frag} {F : Hp} {p : Addr} {d1 d2 : D} {v1 v2 : V} (hp : F p = none) (h1 : Rep K F d1 v1) (h2 : Rep K F d2 v2) : Rep K (upd F p (.tup [v1, v2])) (.tup [d1, d2]) (.ref p) :=
  ⟨p, [v1, v2], rfl, .inl (.inl upd_same), v1, [v2], rfl, Rep.mono (Ex.new hp) _ _ h1, .one (Rep.mono (Ex.new hp) _ _ h2)⟩
theorem none_F {F H : Hp} (e : Ex F H) {p : Addr} (h : H p = none) : F p = none := none_of e h
section
variable {X : Cy} {e e2 a b c o tg : Expr} {es elts : List Expr} {kk : Nat} {st : Stmt} {sts rest body orelse : List Stmt} {r : Env2} {G : GD} {pos tpos apos cpos p0 : Pos} {D0 : EndsD}
theorem wi_enumT {Q : List D → Env2 → GD → Prop} (hg : Gl X "enumerate") (hm : X.mg "enumerate" = none) (h : WE X a r G fun x r1 G1 => ∃ ds r2, fz r1 x = some (.tup ds, r2) ∧ (ds.length ≤ LIM → Q (enumD 0 ds) r2 G1)) (hst : starEach [a] X.env = [(false, eval a X.env)] := by rfl) :
    WI X (.Tuple elts kk tpos) (.Call (.Name "enumerate" p0) [a] [] pos) r G Q := fun F0 T F H σ lk S =>
  RunI.of (pi_enumT hg hm (pa_cons peR pa_nil hst) hst) ((h F0 T F H σ lk S).bl.mono fun v H1 ⟨bl, x, r1, G1, F1, e1, S1, k1, ds, r2, q1, q2⟩ => by
    obtain ⟨Fa, e2, Sa, rp⟩ := S1.fz k1 q1
    obtain ⟨ad, vs, rfl, z1, z2⟩ := rp
    have hlim : ds.length ≤ LIM := by rw [← z2.length]; exact bl.2.1 ad vs (Sa.bas.fh.sqT z1)
    refine ⟨ad, vs, rfl, Sa.bas.fh.sqT z1, enumD 0 ds, r2, G1, Fa, e1.trans e2, Sa, fun F H ea eh => ⟨⟨vs, eh.sqT (ea.sqT z1), by rw [enumD_len, z2.length]⟩, fun i d hi => ?_⟩, q2 hlim⟩
    obtain ⟨d', hd, rfl⟩ := enumD_get hi
    obtain ⟨v, h1, h2⟩ := z2.get hd
    refine ⟨⟨vs, v, eh.sqT (ea.sqT z1), h1⟩, fun x H' ⟨p, y, hx, hp, hH, hy⟩ => .inr ⟨p, _, hp, hH, hx, ?_⟩⟩
    have := hy vs (eh.sqT (ea.sqT z1))
    rw [h1] at this; cases this
    rw [Nat.zero_add]
    exact rep_pair (none_F eh hp) rfl (Rep.mono ea _ _ h2))
def kD : Key → D
  | .inl n => .int n
  | .inr s => .str s
theorem kD_rep {K : PySem.W.Frag} {F : Hp} (k : Key) : Rep K F (kD k) (kV k) := by cases k <;> rfl
theorem zip_get' {α β : Type} {xs : List α} {ys : List β} {i : Nat} {p : α × β} (h : (xs.zip ys)[i]? = some p) : xs[i]? = some p.1 ∧ ys[i]? = some p.2 := by
  obtain ⟨a, b⟩ := p
  exact List.getElem?_zip_eq_some.mp h
theorem zip_len {α β : Type} {xs : List α} {ys : List β} (h : xs.length = ys.length) : (xs.zip ys).length = xs.length := by rw [List.length_zip, h, Nat.min_self]
theorem Vw.loc {K : PySem.W.Frag} {F0 T F : Hp} {G : GD} {H : Hp} {r r2 : Env2} {σ : L2.St} {x : Res} {v : V} {ks : List Key} {ds : List D} (S : Sta K F0 T F G H r σ) (h : ResOk K T F G H r σ x v) (e : fz r x = some (.dic ks ds, r2)) : r2 = r ∧ Rep K F (.dic ks ds) v := by
  cases x with
  | sh d => cases e; exact ⟨rfl, h⟩
  | fr d =>
    have e' : (if isDic d then none else some (d, r)) = some (.dic ks ds, r2) := e
    split at e'
    · cases e'
    · rename_i hd
      cases e'
      exact absurd rfl hd
  | pk i =>
    obtain ⟨h1, d', h2⟩ := h
    have e' : (match r[i]? with | some (.own d) => if isDic d then none else some (d, r.set i (.sh d)) | _ => none) = some (.dic ks ds, r2) := e
    rw [h2] at e'
    dsimp only at e'
    split at e'
    · cases e'
    · rename_i hd
      cases e'
      exact absurd rfl hd
theorem wi_keys {Q : List D → Env2 → GD → Prop} (h : WE X e r G fun x r1 G1 => ∃ ks ds r2, fz r1 x = some (.dic ks ds, r2) ∧ (ks.length ≤ LIM → Q (ks.map kD) r2 G1)) : WI X tg e r G Q := fun F0 T F H σ lk S =>
  RunI.of (pi_keys peR) ((h F0 T F H σ lk S).bl.mono fun v H1 ⟨bl, x, r1, G1, F1, e1, S1, k1, ks, ds, r2, q1, q2⟩ => by
    obtain ⟨rfl, rp⟩ := Vw.loc S1 k1 q1
    obtain ⟨ad, ob, vs, rfl, z1, z2, z3⟩ := rp
    have hl : ks.length = vs.length := by rw [z3.length]; exact z2
    have hlim : ks.length ≤ LIM := by have := bl.2.2 ad _ (.inr ⟨ob, S1.bas.fh _ _ z1⟩); rw [zip_len hl] at this; exact this
    refine ⟨ad, ob, rfl, .inl ⟨_, S1.bas.fh _ _ z1, ks.map kD, r2, G1, F1, e1, S1, fun F H ea eh => ⟨⟨eh _ _ (ea _ _ z1), by rw [List.length_map, zip_len hl]; exact Nat.le_refl _⟩, fun i d hi => ?_⟩, q2 hlim⟩⟩
    rw [List.getElem?_map] at hi
    cases hk : ks[i]? with
    | none => rw [hk] at hi; cases hi
    | some k =>
      rw [hk] at hi
      cases hi
      have hlt : i < ks.length := (List.getElem?_eq_some_iff.mp hk).1
      refine ⟨⟨eh _ _ (ea _ _ z1), by rw [zip_len hl]; exact hlt⟩, fun x H' ⟨hH, k', v', hy, hx⟩ => .inl ⟨hH, ?_⟩⟩
      have := (zip_get' hy).1
      rw [hk] at this; cases this
      subst hx
      exact kD_rep _)
end
theorem rep_kD {K : PySem.W.Frag} {F : Hp} {k : Key} {v : V} (h : Rep K F (kD k) v) : v = kV k := by
  cases k with
  | inl i => exact h
  | inr x => exact h
def putD (acc : List (Key × D)) (k : Key) (d : D) : List (Key × D) :=
  if (acc.any fun kv => decide (kv.1 = k)) = true then acc.map (fun kv => if kv.1 = k then (kv.1, d) else kv) else acc ++ [(k, d)]
def DRep (K : PySem.W.Frag) (F : Hp) : List (Key × D) → List (Key × V) → Prop
  | [], us => us = []
  | p :: acc, us => ∃ u us', us = u :: us' ∧ u.1 = p.1 ∧ Rep K F p.2 u.2 ∧ DRep K F acc us'
theorem DRep.mono {K : PySem.W.Frag} {F F' : Hp} (e : Ex F F') : ∀ {acc : List (Key × D)} {us : List (Key × V)}, DRep K F acc us → DRep K F' acc us
  | [], _, h => h
  | p :: acc, _, ⟨u, us', h1, h2, h3, h4⟩ => ⟨u, us', h1, h2, Rep.mono e _ _ h3, h4.mono e⟩
theorem DRep.length {K : PySem.W.Frag} {F : Hp} : ∀ {acc : List (Key × D)} {us : List (Key × V)}, DRep K F acc us → us.length = acc.length
  | [], _, h => by rw [show _ = [] from h]; rfl
  | p :: acc, _, ⟨u, us', h1, h2, h3, h4⟩ => by rw [h1, List.length_cons, List.length_cons, h4.length]
theorem DRep.keys {K : PySem.W.Frag} {F : Hp} : ∀ {acc : List (Key × D)} {us : List (Key × V)}, DRep K F acc us → us.map (·.1) = acc.map (·.1)
  | [], _, h => by rw [show _ = [] from h]; rfl
  | p :: acc, _, ⟨u, us', h1, h2, h3, h4⟩ => by rw [h1, List.map_cons, List.map_cons, h4.keys, h2]
theorem DRep.vals {K : PySem.W.Frag} {F : Hp} : ∀ {acc : List (Key × D)} {us : List (Key × V)}, DRep K F acc us → RepL K F (acc.map (·.2)) (us.map (·.2))
  | [], _, h => by rw [show _ = [] from h]; rfl
  | p :: acc, _, ⟨u, us', h1, h2, h3, h4⟩ => by subst h1; exact ⟨u.2, us'.map (·.2), rfl, h3, h4.vals⟩
theorem DRep.of {K : PySem.W.Frag} {F : Hp} : ∀ {ks : List Key} {ds : List D} {vs : List V}, ks.length = ds.length → RepL K F ds vs → DRep K F (ks.zip ds) (ks.zip vs)
  | [], _, _, _, _ => by rw [List.zip_nil_left, List.zip_nil_left]; rfl
  | k :: ks, [], _, h, _ => by simp at h
  | k :: ks, d :: ds, _, h, ⟨v, vs', h1, h2, h3⟩ => by subst h1; exact ⟨(k, v), ks.zip vs', rfl, rfl, h2, DRep.of (by simpa using h) h3⟩
theorem DRep.append {K : PySem.W.Frag} {F : Hp} : ∀ {acc bcc : List (Key × D)} {us ws : List (Key × V)}, DRep K F acc us → DRep K F bcc ws → DRep K F (acc ++ bcc) (us ++ ws)
  | [], _, _, _, h, h' => by rw [show _ = [] from h]; exact h'
  | p :: acc, _, _, _, ⟨u, us', h1, h2, h3, h4⟩, h' => by subst h1; exact ⟨u, us' ++ _, rfl, h2, h3, h4.append h'⟩
theorem DRep.any {K : PySem.W.Frag} {F : Hp} (k : Key) : ∀ {acc : List (Key × D)} {us : List (Key × V)}, DRep K F acc us → (us.any fun kv => decide (kv.1 = k)) = acc.any fun kv => decide (kv.1 = k)
  | [], _, h => by rw [show _ = [] from h]; rfl
  | p :: acc, _, ⟨u, us', h1, h2, h3, h4⟩ => by subst h1; rw [List.any_cons, List.any_cons, h4.any k, h2]
theorem DRep.over {K : PySem.W.Frag} {F : Hp} {k : Key} {d : D} {v : V} (hv : Rep K F d v) : ∀ {acc : List (Key × D)} {us : List (Key × V)}, DRep K F acc us → DRep K F (acc.map fun kv => if kv.1 = k then (kv.1, d) else kv) (us.map fun kv => if kv.1 = k then (kv.1, v) else kv)
  | [], _, h => by rw [show _ = [] from h]; rfl
  | p :: acc, _, ⟨u, us', h1, h2, h3, h4⟩ => by
    subst h1
    refine ⟨_, _, List.map_cons, ?_, ?_, h4.over hv⟩
    · dsimp only
      rw [h2]
      by_cases hk : p.1 = k
      · rw [if_pos hk, if_pos hk]
      · rw [if_neg hk, if_neg hk]; exact h2
    · dsimp only
      rw [h2]
      by_cases hk : p.1 = k
      · rw [if_pos hk, if_pos hk]; exact hv
      · rw [if_neg hk, if_neg hk]; exact h3
theorem DRep.put {K : PySem.W.Frag} {F : Hp} {k : Key} {d : D} {v : V} {acc : List (Key × D)} {us : List (Key × V)} (h : DRep K F acc us) (hv : Rep K F d v) : DRep K F (putD acc k d) (putK us k v) := by
  unfold putD putK
  rw [h.any k]
  by_cases hk : (acc.any fun kv => decide (kv.1 = k)) = true
  · rw [if_pos hk, if_pos hk]; exact h.over hv
  · rw [if_neg hk, if_neg hk]; exact h.append ⟨(k, v), [], rfl, rfl, hv, rfl⟩
theorem zip_maps {α β : Type} : ∀ us : List (α × β), (us.map (·.1)).zip (us.map (·.2)) = us
  | [] => rfl
  | u :: us => by rw [List.map_cons, List.map_cons, List.zip_cons_cons, zip_maps us]
def dicD (acc : List (Key × D)) : D := .dic (acc.map (·.1)) (acc.map (·.2))
theorem own_dicD {K : PySem.W.Frag} {F H : Hp} {p : Addr} {acc : List (Key × D)} {us : List (Key × V)} (h : DRep K F acc us) (hp : H p = some (.dK us)) : Own K F H p (dicD acc) := by
  refine ⟨us.map (·.2), ?_, by rw [List.length_map, List.length_map], h.vals⟩
  rw [← h.keys, zip_maps]
  exact hp
section
variable {X : Cy} {e a b c o tg kx vx : Expr} {es : List Expr} {st : Stmt} {sts rest body orelse : List Stmt} {r : Env2} {G : GD} {pos tpos p0 : Pos} {D0 : EndsD}
def DcTurn (X : Cy) (scope : Scope) (tg kx vx : Expr) (ifs : List Expr) (is : List Nat) (d : D) (acc : List (Key × D)) (r : Env2) (G : GD) (Nx : List (Key × D) → Env2 → GD → Prop) : Prop :=
  ∀ Y, BlkX X scope Y → WG Y tg d r G is fun r1 G1 => match ifs with
    | [] => ∀ Y, BlkX X scope Y → WE Y kx r1 G1 fun z r2 G2 => ∃ k, z = .sh (kD k) ∧ ∀ Y, BlkX X scope Y → WE Y vx r2 G2 fun z' r3 G3 => ∃ d' r4, fz r3 z' = some (d', r4) ∧ acc.length < LIM ∧ Nx (putD acc k d') (wipeD r4 is) G3
    | [c] => ∀ Y, BlkX X scope Y → WT Y c r1 G1 fun b r2 G2 => (b = true → ∀ Y, BlkX X scope Y → WE Y kx r2 G2 fun z r3 G3 => ∃ k, z = .sh (kD k) ∧ ∀ Y, BlkX X scope Y → WE Y vx r3 G3 fun z' r4 G4 => ∃ d' r5, fz r4 z' = some (d', r5) ∧ acc.length < LIM ∧ Nx (putD acc k d') (wipeD r5 is) G4) ∧ (b = false → Nx acc (wipeD r2 is) G2)
    | _ => False
theorem dc_turn {scope : Scope}  {ifs : List Expr} {is : List Nat} {d : D} {acc : List (Key × D)} {Nx : List (Key × D) → Env2 → GD → Prop} {F0 T F H : Hp} {σ : L2.St} {v : V} {L : Addr} {us : List (Key × V)}
    (lk : Lk X F0 T) (S : Sta X.K F0 (upd T L (.dK us)) F G H r (L2.wipe σ is)) (hT : T L = none) (h0 : F0 L = none) (ha : DRep X.K F0 acc us) (rp : Rep X.K F d v) (h : DcTurn X scope tg kx vx ifs is d acc r G Nx) {Pn : Hp → Prop}
    (hN : ∀ acc' us' r' G' F' H', Nx acc' r' G' → DRep X.K F' acc' us' → Sta X.K F0 (upd T L (.dK us')) F' G' H' r' (L2.wipe σ is) → Pn H') :
    blkG X scope tg v (L2.wipe σ is) H fun σ2 H2 => L2.wipe σ2 is = L2.wipe σ is ∧ blkT X scope ifs σ2 H2 fun b H3 =>
      if b = true then blkE X scope kx σ2 H3 fun y H4 => blkE X scope vx σ2 H4 fun z H5 => ∃ kvs k, y = kV k ∧ H5 L = some (.dK kvs) ∧ kvs.length < sizeLine ∧ Pn (upd H5 L (.dK (putK kvs k z))) else Pn H3 := by
  have wi : L2.wipe (L2.wipe σ is) is = L2.wipe σ is := by
    have aux : ∀ (js : List Nat) (τ : L2.St), (∀ j ∈ js, ∀ x, τ[j]? = some x → x = none) → L2.wipe τ js = τ := by
      intro js
      induction js with
      | nil => intro τ _; rfl
      | cons j js ih =>
        intro τ hτ
        unfold L2.wipe
        rw [ih τ fun k hk => hτ k (List.mem_cons_of_mem _ hk)]
        refine List.ext_getElem? fun k => ?_
        by_cases hjk : j = k
        · subst hjk
          by_cases hl : j < τ.length
          · rw [List.getElem?_set_self hl]
            cases e : τ[j]? with
            | none => rw [List.getElem?_eq_none_iff] at e; omega
            | some x => rw [hτ j List.mem_cons_self x e]
          · rw [List.getElem?_eq_none (by rw [List.length_set]; omega), List.getElem?_eq_none (by omega)]
        · rw [List.getElem?_set_ne hjk]
    refine aux is _ fun j hj x hx => ?_
    cases x with
    | none => rfl
    | some y => exact absurd hj (wipe_some hx).2
  have fin : ∀ (F2 : Hp) (G2 : GD) (H4 : Hp) (r2 r3 : Env2) (σ2 : L2.St) (z : Res) (y : V) (k : Key) (d' : D), L2.wipe σ2 is = L2.wipe σ is → Sta X.K F0 (upd T L (.dK us)) F2 G2 H4 r2 σ2 → ResOk X.K (upd T L (.dK us)) F2 G2 H4 r2 σ2 z y → fz r2 z = some (d', r3) → acc.length < LIM → Nx (putD acc k d') (wipeD r3 is) G2 →
      ∃ kvs k', kV k = kV k' ∧ H4 L = some (.dK kvs) ∧ kvs.length < sizeLine ∧ Pn (upd H4 L (.dK (putK kvs k' y))) := fun F2 G2 H4 r2 r3 σ2 z y k d' hw S2 k2 q1 q2 q3 => by
    obtain ⟨F3, e3, S3, rp3⟩ := S2.fz k2 q1
    have hL : H4 L = some (.dK us) := S3.bas.tk L _ upd_same
    have ha3 : DRep X.K F3 acc us := DRep.mono S3.bas.ff ha
    have fL : F3 L = none := by
      cases e : F3 L with
      | none => rfl
      | some u =>
        rcases S3.bas.ft L u e with zz | zz
        · rw [h0] at zz; cases zz
        · rw [upd_same] at zz; cases zz
    have gL : G2 L = none := by
      cases e : G2 L with
      | none => rfl
      | some u => have zz := S3.bas.gt L u e; rw [upd_same] at zz; cases zz
    refine ⟨us, k, rfl, hL, by rw [ha3.length]; exact lim_lt q2, hN _ (putK us k y) _ G2 F3 _ q3 (ha3.put rp3) ?_⟩
    have Sw := S3.wipe is hw
    refine ⟨⟨Sw.bas.ff, fun q u hq => ?_, fun q u hq => ?_, fun q u hq => ?_, Sw.bas.fg, fun q u hq => ?_, fun q u hq => ?_⟩, Sw.len, fun i s hs => ?_, Sw.ap⟩
    · have hqL : q ≠ L := fun zz => by subst zz; rw [fL] at hq; cases hq
      have := Sw.bas.ft q u hq
      rw [upd_ne hqL] at this ⊢
      exact this
    · have hqL : q ≠ L := fun zz => by subst zz; rw [fL] at hq; cases hq
      rw [upd_ne hqL]; exact Sw.bas.fh q u hq
    · have hqL : q ≠ L := fun zz => by subst zz; rw [gL] at hq; cases hq
      exact (Sw.bas.gh q u hq).mono (Ex.refl _) fun o ho => by rw [upd_ne hqL]; exact ho
    · have hqL : q ≠ L := fun zz => by subst zz; rw [gL] at hq; cases hq
      have := Sw.bas.gt q u hq
      rw [upd_ne hqL] at this ⊢
      exact this
    · by_cases hqL : q = L
      · subst hqL; rw [upd_same] at hq ⊢; exact hq
      · rw [upd_ne hqL] at hq ⊢
        exact Sw.bas.tk q u (by rw [upd_ne hqL]; exact hq)
    · have hh := Sw.sl i s hs
      cases s with
      | no => trivial
      | sh d => exact hh
      | own d =>
        obtain ⟨p, k1, k3, k4, k5, k6⟩ := hh
        have hpL : p ≠ L := fun zz => by subst zz; rw [upd_same] at k6; cases k6
        rw [upd_ne hpL] at k6
        exact ⟨p, k1, k3.mono (Ex.refl _) (fun u hu => by rw [upd_ne hpL]; exact hu), k4, k5, by rw [upd_ne hpL]; exact k6⟩
  intro Y hY pins s u I rv
  have lk' : Lk X F0 (upd T L (.dK us)) := lk.ext (Ex.new hT)
  have hYK : Y.K = X.K := hY.k
  have h' := h Y hY
  unfold WG at h'
  rw [hYK] at h'
  refine wpAny_mono (h' F0 (upd T L (.dK us)) F H (L2.wipe σ is) v (hY.lk lk') S rp pins s u I rv) (fun _ s' ⟨σ', H', I', hw, r', G', F', e', S', q⟩ => ⟨σ', H', I', hw.trans wi, ?_⟩) fun _ _ x => x
  have hw' := hw.trans wi
  match ifs, q with
  | [], q =>
    unfold blkT
    dsimp only
    rw [if_pos rfl]
    intro Z hZ
    have q' := q Z hZ
    unfold WE at q'
    rw [hZ.k] at q'
    refine (q' F0 _ F' H' σ' (hZ.lk lk') S').mono fun y H4 ⟨z, r2, G2, F2, e2, S2, k2, k, hz, m1⟩ => ?_
    subst hz
    cases rep_kD (K := X.K) k2
    intro W hW
    have q2 := m1 W hW
    unfold WE at q2
    rw [hW.k] at q2
    exact (q2 F0 _ F2 H4 σ' (hW.lk lk') S2).mono fun u H5 ⟨z', r3, G3, F3, e3, S3, k3, d', r4, n1, n2, n3⟩ => fin F3 G3 H5 r3 r4 σ' z' u k d' hw' S3 k3 n1 n2 n3
  | [c], q =>
    intro Z hZ
    have q' := q Z hZ
    unfold WT at q'
    rw [hZ.k] at q'
    refine (q' F0 _ F' H' σ' (hZ.lk lk') S').mono fun b H3 ⟨r2, G2, F2, e2, S2, m1, m2⟩ => ?_
    cases b with
    | true =>
      rw [if_pos rfl]
      intro W hW
      have q2 := m1 rfl W hW
      unfold WE at q2
      rw [hW.k] at q2
      refine (q2 F0 _ F2 H3 σ' (hW.lk lk') S2).mono fun y H4 ⟨z, r3, G3, F3, e3, S3, k3, k, hz, n1⟩ => ?_
      subst hz
      cases rep_kD (K := X.K) k3
      intro V hV
      have q3 := n1 V hV
      unfold WE at q3
      rw [hV.k] at q3
      exact (q3 F0 _ F3 H4 σ' (hV.lk lk') S3).mono fun u H5 ⟨z', r4, G4, F4, e4, S4, k4, d', r5, p1, p2, p3⟩ => fin F4 G4 H5 r4 r5 σ' z' u k d' hw' S4 k4 p1 p2 p3
    | false =>
      rw [if_neg Bool.false_ne_true]
      exact hN acc us _ G2 F2 H3 (m2 rfl) (DRep.mono S2.bas.ff ha) (S2.wipe is hw')
  | _ :: _ :: _, q => exact q.elim
/-- what a comprehension's loop keeps -/
def DcInv (K : PySem.W.Frag) (T Fa : Hp) (τ : L2.St) (L : Addr) (I : List (Key × D) → Env2 → GD → Prop) : Hp → Prop := fun H' =>
  ∃ acc us r' G' F', DRep K F' acc us ∧ Sta K Fa (upd T L (.dK us)) F' G' H' r' τ ∧ I acc r' G'
theorem dc_begin {K : PySem.W.Frag} {F0 T F H : Hp} {σ : L2.St} {is : List Nat} {L : Addr} {I : List (Key × D) → Env2 → GD → Prop} (S : Sta K F0 T F G H r σ) (hL : H L = none) (h0 : I [] (wipeD r is) G) : DcInv K T F (L2.wipe σ is) L I (upd H L (.dK [])) := by
  obtain ⟨f1, f2, f3⟩ := S.bas.freshF hL
  have Sb := (S.newH (o := .dK []) hL).base.wipe (σ := σ) is rfl
  refine ⟨[], [], _, G, F, rfl, ⟨⟨Sb.bas.ff, fun q u hq => .inl hq, Sb.bas.fh, Sb.bas.gh, Sb.bas.fg, fun q u hq => ?_, fun q u hq => ?_⟩, Sb.len, fun i s hs => ?_, Sb.ap⟩, h0⟩
  · have hq' : q ≠ L := fun z => by subst z; rw [f2] at hq; cases hq
    rw [upd_ne hq']; exact Sb.bas.gt q u hq
  · by_cases hq' : q = L
    · subst hq'; rw [upd_same] at hq ⊢; exact hq
    · rw [upd_ne hq'] at hq; exact Sb.bas.tk q u hq
  · have hh := Sb.sl i s hs
    cases s with
    | no => trivial
    | sh d => exact hh
    | own d =>
      obtain ⟨p, k1, k2, k3, k4, k5⟩ := hh
      have hp : p ≠ L := fun z => by
        subst z
        by_cases hi : i ∈ is
        · have : (L2.wipe σ is)[i]? ≠ some (some (V.ref p)) := fun z => (wipe_some z).2 hi
          exact this k1
        · have e := (wipe_some k1).1
          have hr : r[i]? = some (.own d) := by
            have aux : ∀ (js : List Nat), i ∉ js → (wipeD r js)[i]? = r[i]? := by
              intro js
              induction js with
              | nil => intro _; rfl
              | cons j js ih =>
                intro hj
                unfold wipeD
                rw [List.getElem?_set_ne (fun z => hj (by rw [z]; exact List.mem_cons_self)), ih (fun z => hj (List.mem_cons_of_mem _ z))]
            rw [aux is hi] at hs
            exact hs
          exact S.freshR hL i d hr e
      exact ⟨p, k1, k2, k3, k4, by rw [upd_ne hp]; exact k5⟩
theorem dc_end {K : PySem.W.Frag} {F0 T Fa : Hp} {Ga : GD} {Ha H' : Hp} {σ : L2.St} {is : List Nat} {L : Addr} {I : List (Key × D) → Env2 → GD → Prop} {Q : Res → Env2 → GD → Prop} (B : Bas K F0 T Fa Ga Ha) (hL : Ha L = none) (hσ : Wk r (wipeD r is)) (S0 : Sta K F0 T Fa Ga Ha r σ) (h : DcInv K T Fa (L2.wipe σ is) L I H') (he : ∀ acc r' G', I acc r' G' → Q (.fr (dicD acc)) r' G') :
    PostE K F0 T Fa σ Q (.ref L) H' := by
  obtain ⟨acc, us, r', G', F', ha, S, q⟩ := h
  obtain ⟨f1, f2, f3⟩ := B.freshF hL
  have fL : F' L = none := by
    cases e : F' L with
    | none => rfl
    | some u =>
      rcases S.bas.ft L u e with zz | zz
      · rw [f1] at zz; cases zz
      · rw [upd_same] at zz; cases zz
  have gL : G' L = none := by
    cases e : G' L with
    | none => rfl
    | some u => have zz := S.bas.gt L u e; rw [upd_same] at zz; cases zz
  have tsub : ∀ q u, T q = some u → upd T L (.dK us) q = some u := fun q u hq => by
    have hqL : q ≠ L := fun zz => by subst zz; rw [f3] at hq; cases hq
    rw [upd_ne hqL]; exact hq
  have tdown : ∀ q, upd T L (.dK us) q = none → T q = none := fun q hq => by
    cases hf : T q with
    | none => rfl
    | some u => rw [tsub q u hf] at hq; cases hq
  have slots : ∀ (i : Nat) (s : Sl), r'[i]? = some s → SlotOk K T F' G' H' s σ[i]? := fun i s hs => by
    have hh := S.sl i s hs
    cases s with
    | no => trivial
    | sh d => obtain ⟨v, k1, k2⟩ := hh; exact ⟨v, (wipe_some k1).1, k2⟩
    | own d => obtain ⟨p, k1, k2, k3, k4, k5⟩ := hh; exact ⟨p, (wipe_some k1).1, k2, k3, k4, tdown p k5⟩
  have St : Sta K F0 T F' G' H' r' σ := by
    refine ⟨⟨B.ff.trans S.bas.ff, fun q u hq => ?_, S.bas.fh, S.bas.gh, S.bas.fg, fun q u hq => tdown q (S.bas.gt q u hq), fun q u hq => S.bas.tk q u (tsub q u hq)⟩, by rw [S.len, wipe_length], slots, fun i j d e hij hi hj z => ?_⟩
    · rcases S.bas.ft q u hq with zz | zz
      · exact B.ft q u zz
      · exact .inr (tdown q zz)
    · obtain ⟨p, k1, _⟩ := S.ownS hi
      obtain ⟨p2, m1, _⟩ := S.ownS hj
      refine S.ap i j d e hij hi hj ?_
      rw [(wipe_some k1).1, (wipe_some m1).1] at z
      rw [k1, m1, z]
  refine ⟨.fr (dicD acc), r', G', F', S.bas.ff, St, ⟨L, rfl, own_dicD ha (S.bas.tk L _ upd_same), fL, gL, f3, fun i d hi z => ?_⟩, he acc r' G' q⟩
  obtain ⟨p, k1, _, _, _, k5⟩ := S.ownS hi
  have e1 := (wipe_some k1).1
  rw [e1] at z; cases z
  rw [upd_same] at k5; cases k5
/-- one step of a comprehension over items -/
theorem dc_step {scope : Scope} {ifs : List Expr} {is : List Nat} {d : D} {J : It} {ds : List D} {i : Nat} {T Fa : Hp} {H H' : Hp} {σ : L2.St} {v : V} {L : Addr} {I I' : List (Key × D) → Env2 → GD → Prop} (lk : Lk X Fa T) (hL : Fa L = none) (hT : T L = none) (hJ : ItD X.K J Fa ds) (hi : ds[i]? = some d) (h : DcInv X.K T Fa (L2.wipe σ is) L I H) (y : J.yld i H v H')
    (hs : ∀ acc r' G', I acc r' G' → DcTurn X scope tg kx vx ifs is d acc r' G' I') :
    blkG X scope tg v (L2.wipe σ is) H' fun σ2 H2 => L2.wipe σ2 is = L2.wipe σ is ∧ blkT X scope ifs σ2 H2 fun b H3 =>
      if b = true then blkE X scope kx σ2 H3 fun y H4 => blkE X scope vx σ2 H4 fun z H5 => ∃ kvs k, y = kV k ∧ H5 L = some (.dK kvs) ∧ kvs.length < sizeLine ∧ DcInv X.K T Fa (L2.wipe σ is) L I' (upd H5 L (.dK (putK kvs k z))) else DcInv X.K T Fa (L2.wipe σ is) L I' H3 := by
  obtain ⟨acc, us, r', G', F1, ha1, S1, q⟩ := h
  obtain ⟨F', ef, S, rp⟩ := hJ.item S1.bas.ff S1 hi y
  have ha := DRep.mono ef ha1
  have fL : F' L = none := by
    cases e : F' L with
    | none => rfl
    | some u =>
      rcases S.bas.ft L u e with zz | zz
      · rw [hL] at zz; cases zz
      · rw [upd_same] at zz; cases zz
  have lk' : Lk X F' T := ⟨lk.t, lk.f.trans S.bas.ff, fun a o ho => (S.bas.ft a o ho).elim (fun z => lk.ft a o z) fun z => .inr (none_of lk.t (none_of (Ex.new hT) z))⟩
  refine dc_turn lk' S.base hT fL ha rp (hs acc r' G' q) fun acc' us' r2 G2 F2 H2 q2 ha2 S2 => ?_
  refine ⟨acc', us', r2, G2, F2, ha2, ⟨⟨S.bas.ff.trans S2.bas.ff, fun q u hq => ?_, S2.bas.fh, S2.bas.gh, S2.bas.fg, S2.bas.gt, S2.bas.tk⟩, S2.len, S2.sl, S2.ap⟩, q2⟩
  rcases S2.bas.ft q u hq with zz | zz
  · rcases S.bas.ft q u zz with yy | yy
    · exact .inl yy
    · by_cases hqL : q = L
      · subst hqL; rw [fL] at zz; cases zz
      · rw [upd_ne hqL] at yy ⊢; exact .inr yy
  · exact .inr zz
theorem we_dc {scope : Scope} {ifs : List Expr} (own : List (Str × Nat)) {Q : Res → Env2 → GD → Prop} (hc : X.calm = true) (hN : X.N.Nodup) (ok : BlkOk X.N X.env.scope scope own)
    (h : WI X tg e r G fun ds r2 G1 => ∃ I : Nat → List (Key × D) → Env2 → GD → Prop, I 0 [] (wipeD r2 (own.map (·.2))) G1 ∧ (∀ (k : Nat) (d : D) (acc : List (Key × D)) (r3 : Env2) (G3 : GD), ds[k]? = some d → I k acc r3 G3 → DcTurn X scope tg kx vx ifs (own.map (·.2)) d acc r3 G3 (I (k + 1))) ∧
      ∀ acc r3 G3, I ds.length acc r3 G3 → Q (.fr (dicD acc)) r3 G3) (hs : ∀ x, foldedSetIterable e X.env x = pure x := by intro _; rfl) : WE X (.DictComp kx vx [⟨tg, e, ifs, 0⟩] scope pos) r G Q := fun F0 T F H σ lk S =>
  Run.of (pe_dc hc hN piR ok blkG_ok blkT_ok blkE_ok blkE_ok hs) (by
    refine (h F0 T F H σ lk S).mono fun J H1 ⟨ds, r2, G1, Fa, e1, Sa, hJ, I, i0, it, ie⟩ L hL => ?_
    obtain ⟨f1, f2, f3⟩ := Sa.bas.freshF hL
    refine ⟨fun i m H' => m = ds.length - i ∧ i ≤ ds.length ∧ DcInv X.K T Fa (L2.wipe σ (own.map (·.2))) L (I i) H', ⟨ds.length, by simp, Nat.zero_le _, dc_begin Sa hL i0⟩, ?_⟩
    rintro i m H' ⟨rfl, hi, hI⟩
    obtain ⟨_, _, _, _, F', _, S', _⟩ := id hI
    obtain ⟨j1, j2⟩ := hJ F' H' S'.bas.ff S'.bas.fh
    by_cases hlt : i < ds.length
    · obtain ⟨j3, _⟩ := j2 i ds[i] (List.getElem?_eq_getElem hlt)
      refine .inr ⟨j3, fun H2 => DcInv X.K T Fa (L2.wipe σ (own.map (·.2))) L (I (i + 1)) H2, fun H2 p2 => ⟨ds.length - (i + 1), by omega, rfl, hlt, p2⟩, fun x H2 y => ?_⟩
      exact dc_step (lk.base Sa.bas) f1 f3 hJ (List.getElem?_eq_getElem hlt) hI y fun acc r' G' q => it i ds[i] acc r' G' (List.getElem?_eq_getElem hlt) q
    · have e : i = ds.length := by omega
      subst e
      exact .inl ⟨j1, (dc_end Sa.bas hL (wk_wipe _ _) Sa hI fun acc r' G' q => ie acc r' G' q).ext e1⟩)
end
section
variable {X : Cy} {e a b c o tg kx vx : Expr} {es : List Expr} {st : Stmt} {sts rest body orelse : List Stmt} {r : Env2} {G : GD} {pos tpos p0 p1 p2 : Pos} {D0 : EndsD}
theorem call_sortedDA (hcalm : X.calm = true) : CallR X (.builtin "sorted") (fun xs H Q => ∃ (a : Addr) (kvs : List (Key × V)) (ks : List Int), xs = [.ref a] ∧ Rd H a (.dK kvs) ∧ kvs.map (·.1) = ks.map Sum.inl ∧
    ∀ (ys : List Int) (p : Addr), ys.Perm ks → ys.Pairwise (· ≤ ·) → H p = none → Q (.ref p) (upd H p (.lst (ys.map V.int)))) := by
  intro pins s σ H xs us Q I r q
  obtain ⟨a, kvs, ks, ex, hd, hks, q⟩ := q
  subst ex
  obtain ⟨u, eu, rx⟩ := vals1 r
  subst eu
  cases rx
  obtain ⟨z, lo, vs, rel, dd⟩ := dk_rd I.hok hd
  obtain ⟨ep, hat⟩ := dd.dictAt
  have hkeys : vs.map (·.1) = ks.map Sum.inl := rel.keys.symm.trans hks
  have hl : vs.length = ks.length := by
    have e := congrArg List.length hkeys
    rw [List.length_map, List.length_map] at e
    exact e
  have h16 : vs.length ≤ sizeLine := by rw [← rel.length]; exact z
  refine Calls.call_function_entry PyProof.Rows.kind_sorted PyProof.Rows.plain_sorted PyProof.Rows.entry_sorted (PyProof.Rows.args_sorted1 _) ?_
  unfold Builtin.«sorted»
  refine wpAny_bind (m := checkCount "sorted" 1 1 _) (wpAny_pure ?_)
  refine wpAny_bind (PySem.W.kdu_collect (A := X.A.in1) (PySem.W.kdl_dict (knd := mixKind X.prog X.w) (kvs := vs) (ep := ep) lo) (I.ok.hd hcalm) hat h16 fun h' tk acc hk hacc => ?_)
  have hal : acc.toList.length = ks.length := by rw [Array.length_toList, hacc.1, hl]
  have hS : IntsAre acc.toList ks := ints_each hal fun j v e => by
    obtain ⟨k, x, e1, e2⟩ := hacc.2 j v (by rw [← Array.getElem?_toList]; exact e)
    have e3 : (vs.map (·.1))[j]? = some k := by rw [List.getElem?_map, e1]; rfl
    rw [hkeys, List.getElem?_map] at e3
    cases e4 : ks[j]? with
    | none => rw [e4] at e3; cases e3
    | some y =>
      rw [e4] at e3
      have e5 : Sum.inl y = k := Option.some.inj e3
      subst e5
      rcases keyIs_shape (show keyIs (Sum.inl y) v = true from e2) with ⟨i, t, ek, ev⟩ | ⟨z, t, ek, ev⟩
      · cases ek
        exact ⟨y, t, rfl, ev⟩
      · cases ek
  have I1 : Inv X pins σ H { s with heap := h', toks := tk } := I.kept hk
  refine wpAny_bind (wpAny_newList ?_ (by rw [hal, ← hl]; exact h16))
  have hoL : (h'.push (seqObj "list" acc.toList.toArray 0)).get? h'.objs.size = some (seqObj "list" acc.toList.toArray 0) := Heap.get?_push_size _ rfl
  show wpAny _ _ _ _ _ { s with heap := h'.push (seqObj "list" acc.toList.toArray 0), toks := tk }
  refine wpAny_bind (wpAny_holding (wpAny_call_entry PyProof.Rows.slot_list_sort ⟨_, hoL, rfl⟩ PyProof.Rows.entry_list_sort
    (SrtO.list_sort_ord (s := { s with heap := h'.push (seqObj "list" acc.toList.toArray 0), toks := tk }) SrtO.swo_int hoL (by rw [hal, ← hl]; exact h16) (fun h2 => SrtO.ints_sortable hS h2) fun out g1 g2 => ⟨_, rfl, ?_⟩) (PyProof.Rows.args_list_sort _)))
  obtain ⟨k1, k2, k3⟩ := SrtO.ints_out hS g1 g2
  obtain ⟨e', he'⟩ := PyProof.Rows.sortedHeap_at (vs := acc.toList) (out := out.toArray) hoL
  have hlen : ((out.map SrtO.iv).map V.int).length ≤ sizeLine := by
    rw [List.length_map, k2.length_eq, ← hl]
    exact h16
  refine wpAny_pure ⟨_, rfl, .ref h'.objs.size, upd H h'.objs.size (.lst ((out.map SrtO.iv).map V.int)), I1.laid (t' := tk) (fun b u e => ?_) (Nat.le_refl _)
    (show ObjOk X.prog X.w _ _ _ (.lst ((out.map SrtO.iv).map V.int)) from ⟨hlen, out, e', vals_of_ints k1, he'⟩), rfl, q _ _ k2 k3 (I1.hok.fresh (Nat.le_refl _))⟩
  have hb : b < h'.objs.size := Heap.lt_size e
  rw [PyProof.Rows.sortedHeap_old (Nat.ne_of_lt hb) (by rw [size_push']; exact Nat.lt_succ_of_lt hb)]
  exact Heap.get?_push_of_some _ e
theorem c_sortedD {Q : Res → Prop} {ks : List Int} {ds : List D} (hcalm : X.calm = true) (q : Q (.fr (.lst ((isort ks).map D.int)))) : CallW1 X (.builtin "sorted") (.dic (ks.map Sum.inl) ds) Q := fun F0 T F G H r σ v S h => by
  obtain ⟨p, vs, rfl, k1, k2, k3⟩ := h.dic S.bas.fh
  refine ⟨_, call_sortedDA hcalm, p, _, ks, rfl, k1, ?_, fun ys l h1 h2 hl => ?_⟩
  · rw [List.map_fst_zip (by rw [k3.length]; omega)]
  · rw [isort_of h1 h2]
    exact new_lst S (RepL.of_ints _) hl q
theorem pairs_rep {K : PySem.W.Frag} {F : Hp} : ∀ {kvs : List (Key × D)} {vs : List V}, RepL K F (kvs.map fun kv => .tup [kD kv.1, kv.2]) vs → ∃ (ps : List Addr) (us : List (Key × V)), vs = ps.map V.ref ∧ Paired (fun p kv => SqT K F p [kV kv.1, kv.2]) ps us ∧ DRep K F kvs us
  | [], _, h => ⟨[], [], h, .nil, rfl⟩
  | kv :: kvs, _, ⟨v, vs', h1, ⟨p, ws, h2, h3, w1, ws1, h4, h5, w2, ws2, h6, h7, h8⟩, h9⟩ => by
    obtain ⟨ps, us, z1, z2, z3⟩ := pairs_rep h9
    subst h1 h2 z1
    cases rep_kD h5
    cases (show ws2 = [] from h8)
    subst h6 h4
    exact ⟨p :: ps, (kv.1, w2) :: us, rfl, .cons h3 z2, ⟨(kv.1, w2), us, rfl, rfl, h7, z3⟩⟩
theorem DRep.fold {K : PySem.W.Frag} {F : Hp} : ∀ {kvs acc : List (Key × D)} {us ws : List (Key × V)}, DRep K F acc ws → DRep K F kvs us → DRep K F (kvs.foldl (fun acc kv => putD acc kv.1 kv.2) acc) (mergeK ws us)
  | [], _, _, _, h, h' => by rw [show _ = [] from h']; exact h
  | kv :: kvs, acc, _, ws, h, ⟨u, us', h1, h2, h3, h4⟩ => by
    subst h1
    have : DRep K F (putD acc kv.1 kv.2) (putK ws u.1 u.2) := by rw [h2]; exact h.put h3
    have z := DRep.fold this h4
    exact z
theorem paired_mono {α β : Type} {R R' : α → β → Prop} (k : ∀ a b, R a b → R' a b) : ∀ {xs : List α} {ys : List β}, Paired R xs ys → Paired R' xs ys
  | _, _, .nil => .nil
  | _, _, .cons h t => .cons (k _ _ h) (paired_mono k t)
theorem c_dictP {Q : Res → Prop} {kvs : List (Key × D)} (hcalm : X.calm = true) (q : Q (.fr (dicD (kvs.foldl (fun acc kv => putD acc kv.1 kv.2) [])))) : CallW1 X (.type "dict") (.lst (kvs.map fun kv => .tup [kD kv.1, kv.2])) Q := fun F0 T F G H r σ v S h => by
  obtain ⟨p, vs, rfl, k1, k2⟩ := h.lst S.bas.fh
  obtain ⟨ps, us, rfl, z2, z3⟩ := pairs_rep k2
  refine ⟨_, call_dictP hcalm, p, ps, us, rfl, .inl k1, paired_mono (fun a b h => S.bas.fh.sqT h) z2, fun l hl => ?_⟩
  obtain ⟨f1, f2, f3⟩ := S.bas.freshF hl
  exact ⟨.fr (dicD _), F, Ex.refl _, S.newH hl, ⟨l, rfl, own_dicD (DRep.fold (acc := []) (ws := []) rfl z3) upd_same, f1, f2, f3, S.freshR hl⟩, q⟩
end
section
variable {X : Cy} {e a b c o tg kx vx : Expr} {es : List Expr} {st : Stmt} {sts rest body orelse : List Stmt} {r : Env2} {G : GD} {pos tpos apos p0 p1 p2 : Pos} {D0 : EndsD}
theorem passF {X : Cx} : Passes (L2.CX X.prog X.w) X (fun _ _ _ => False) := fun _ _ _ _ _ _ _ h => by
  obtain ⟨_, _, _, _, _, _, _, _, _, _, _, _, z⟩ := h
  exact z.elim
theorem Vw.rep_ins {K : PySem.W.Frag} {F H : Hp} {C : Addr} {ds : List D} {v : V} (h : Vw K F H (.ins C ds) v) : Rep K F (.ins C ds) v := by
  rcases h with z | ⟨_, _, z⟩
  · exact z
  · exact z.elim
end
theorem lt_ {i n : Nat} (h : Nat.ble (i + 1) n = true) : i < n := Nat.le_of_ble_eq_true h
/-- what builtin names stand free -/
structure Bn (mg : Str → Option Value) : Prop where
  int : mg "int" = none
  len : mg "len" = none
  list : mg "list" = none
  range : mg "range" = none
  sorted : mg "sorted" = none
  tuple : mg "tuple" = none
  dict : mg "dict" = none
  isinstance : mg "isinstance" = none
  bool : mg "bool" = none
  str : mg "str" = none
  enumerate : mg "enumerate" = none
  reversed : mg "reversed" = none
  abs : mg "abs" = none
  min : mg "min" = none
  max : mg "max" = none
  sum : mg "sum" = none
  zip : mg "zip" = none
  set : mg "set" = none
  all : mg "all" = none
  divmod : mg "divmod" = none
section
variable {X : Cy} {r : Env2} {G : GD} {pos px py pz : Pos}
theorem wg_pair (i j : Nat) {x y : Str} {kt : Nat} {d1 d2 : D} {is : List Nat} {Q : Env2 → GD → Prop} (hc : X.calm = true) (nd : X.N.Nodup) (hi : X.N[i]? = some x) (hj : X.N[j]? = some y) (hx : L2.Loc X.env.scope x) (hy : L2.Loc X.env.scope y) (mi : i ∈ is) (mj : j ∈ is) (li : i < r.length) (lj : j < r.length)
    (q : Q ((r.set i (.sh d1)).set j (.sh d2)) G) (hfx : X.fn x = true ∨ X.env.scope.names.lookup x = some .local := by first | exact .inl rfl | exact .inr rfl | assumption) (hfy : X.fn y = true ∨ X.env.scope.names.lookup y = some .local := by first | exact .inl rfl | exact .inr rfl | assumption)
    (hn : (assignEach [.Name x px, .Name y py] X.env).length = 2 := by rfl) (hf : (assignEach [.Name x px, .Name y py] X.env).findIdx? (·.1) = none := by rfl) : WG X (.Tuple [.Name x px, .Name y py] kt pos) (.tup [d1, d2]) r G is Q :=
  wg_tup [i, j] hc (.cons (pg_name nd hi hx hfx) (.cons (pg_name nd hj hy hfy) .nil)) (fun t ht us => by
    rcases List.mem_cons.mp ht with rfl | ht
    · rfl
    · cases List.mem_singleton.mp ht; rfl) (fun k hk => by
    rcases List.mem_cons.mp hk with rfl | hk
    · exact mi
    · cases List.mem_singleton.mp hk; exact mj) rfl (fun k hk => by
    rcases List.mem_cons.mp hk with rfl | hk
    · exact li
    · cases List.mem_singleton.mp hk; exact lj) q hn hf
end
/-- an exception: the number of its class, its values by name -/
structure Xm where
  n : Nat
  fs : List (Str × D)
inductive Out (α : Type) where
  | ok (a : α) | ex (x : Xm) | no
namespace Out
variable {α β σ ρ : Type}
def sat (m : Out α) (Q : α → Prop) (E : Xm → Prop) : Prop := match m with
  | .ok a => Q a
  | .ex x => E x
  | .no => False
def bind (m : Out α) (f : α → Out β) : Out β := match m with
  | .ok a => f a
  | .ex x => .ex x
  | .no => .no
/-- no exception is let out -/
def nox (m : Out α) : Out α := match m with
  | .ok a => .ok a
  | _ => .no
@[irreducible] def guard (p : Prop) [Decidable p] : Out Unit := if p then .ok () else .no
def get (o : Option α) : Out α := match o with
  | some a => .ok a
  | none => .no
theorem sat.imp {m : Out α} {Q Q' : α → Prop} {E E' : Xm → Prop} (h : m.sat Q E) (k : ∀ a, Q a → Q' a) (e : ∀ x, E x → E' x) : m.sat Q' E' := by
  cases m with
  | ok a => exact k a h
  | ex x => exact e x h
  | no => exact h
theorem sb {m : Out α} {f : α → Out β} {Q : β → Prop} {E : Xm → Prop} (h : (m.bind f).sat Q E) : m.sat (fun a => (f a).sat Q E) E := by
  cases m with
  | ok a => exact h
  | ex x => exact h
  | no => exact h
theorem nx {m : Out α} {Q : α → Prop} {E E' : Xm → Prop} (h : m.nox.sat Q E) : m.sat Q E' := by
  cases m with
  | ok a => exact h
  | ex x => exact h.elim
  | no => exact h
theorem gd {p : Prop} [Decidable p] {f : Unit → Out β} {Q : β → Prop} {E : Xm → Prop} (h : ((guard p).bind f).sat Q E) : p ∧ (f ()).sat Q E := by
  by_cases hp : p
  · unfold guard at h; rw [if_pos hp] at h; exact ⟨hp, h⟩
  · unfold guard at h; rw [if_neg hp] at h; exact h.elim
theorem gt {o : Option α} {f : α → Out β} {Q : β → Prop} {E : Xm → Prop} (h : ((get o).bind f).sat Q E) : ∃ a, o = some a ∧ (f a).sat Q E := by
  cases o with
  | none => exact h.elim
  | some a => exact ⟨a, rfl, h⟩
theorem iteb {c : Bool} {a b : Out α} {Q : α → Prop} {E : Xm → Prop} (h : (if c = true then a else b).sat Q E) : (c = true → a.sat Q E) ∧ (c = false → b.sat Q E) :=
  ⟨fun hc => by rw [if_pos hc] at h; exact h, fun hc => by rw [if_neg (by rw [hc]; exact Bool.false_ne_true)] at h; exact h⟩
@[simp] theorem bind_ok (a : α) (f : α → Out β) : (Out.ok a).bind f = f a := rfl
@[simp] theorem bind_ex (x : Xm) (f : α → Out β) : (Out.ex x : Out α).bind f = .ex x := rfl
@[simp] theorem bind_no (f : α → Out β) : (Out.no : Out α).bind f = .no := rfl
@[simp] theorem nox_ok (a : α) : (Out.ok a).nox = .ok a := rfl
@[simp] theorem get_some (a : α) : Out.get (some a) = .ok a := rfl
theorem guard_pos {p : Prop} [Decidable p] (h : p) : guard p = .ok () := by unfold guard; exact if_pos h
/-- a loop without a return -/
def fold (f : σ → α → Out σ) : List α → σ → Out σ
  | [], s => .ok s
  | x :: xs, s => (f s x).bind (fold f xs)
/-- how a block with a return ends -/
inductive Rt (σ ρ : Type) where
  | nx (s : σ) | rt (v : ρ)
/-- a loop with a return -/
def loop (f : σ → α → Out (Rt σ ρ)) : List α → σ → Out (Rt σ ρ)
  | [], s => .ok (.nx s)
  | x :: xs, s => (f s x).bind fun t => match t with
    | .nx s' => loop f xs s'
    | .rt v => .ok (.rt v)
/-- .. with a state -/
def compS (f : σ → α → Out (Option β × σ)) : List α → List β → σ → Out (List β × σ)
  | [], acc, s => .ok (acc, s)
  | x :: xs, acc, s => (f s x).bind fun p => compS f xs (match p.1 with
    | some y => acc ++ [y]
    | none => acc) p.2
end Out
open Out (Rt)
abbrev eI : Int → D := D.int
abbrev eB : Bool → D := D.bl
abbrev eU : Unit → D := fun _ => .non
abbrev eL {α : Type} (f : α → D) : List α → D := fun xs => .lst (xs.map f)
abbrev eT {α : Type} (f : α → D) : List α → D := fun xs => .tup (xs.map f)
abbrev eP {α β : Type} (f : α → D) (g : β → D) : α × β → D := fun p => .tup [f p.1, g p.2]
abbrev kI : Int → Key := Sum.inl
def eDl {κ ν : Type} (k : κ → Key) (f : ν → D) (kvs : List (κ × ν)) : List (Key × D) := kvs.map fun p => (k p.1, f p.2)
abbrev eD {κ ν : Type} (k : κ → Key) (f : ν → D) : List (κ × ν) → D := fun kvs => .dic (kvs.map fun p => k p.1) (kvs.map fun p => f p.2)
theorem eD_dicD {κ ν : Type} (k : κ → Key) (f : ν → D) (kvs : List (κ × ν)) : dicD (eDl k f kvs) = eD k f kvs := by
  unfold dicD eDl
  rw [List.map_map, List.map_map]; rfl
/-- the class of an exception of the mirrors -/
def xnOf (cx : Nat → Addr) (m : Xm) : Exn := ⟨.ref (cx m.n), m.fs⟩
/-- a def without draws -/
def FM (cx : Nat → Addr) {A R : Type} (en : A → List D) (er : R → Res) (f : A → Out R) : FSp := fun ds G post px => ∃ a : A, ds = en a ∧ (f a).sat (fun v => post (er v) G) (fun m => px (xnOf cx m) G)
section
variable {X : Cy} {e a b c o tg kx vx elt : Expr} {es ifs : List Expr} {st : Stmt} {sts rest body orelse : List Stmt} {r : Env2} {G : GD} {pos tpos apos cpos p0 : Pos} {D0 : EndsD} {α β γ σT ρ : Type}
theorem wb_env (R : Env2) (hr : r = R) (k : WB X sts R G D0) : WB X sts r G D0 := by subst hr; exact k
theorem wb_let {e : α} {f : α → Out β} {Q : β → Prop} {E : Xm → Prop} (h : ((Out.ok e).bind f).sat Q E) (R : α → Env2) (hr : r = R e) (k : ∀ x, (f x).sat Q E → WB X sts (R x) G D0) : WB X sts r G D0 := by subst hr; exact k e h
theorem WG.weak {d : D} {r' : Env2} {is : List Nat} {Q : Env2 → GD → Prop} (w : Wk r r') (h : WG X tg d r' G is Q) : WG X tg d r G is Q := fun F0 T F H σ v lk S rp => h F0 T F H σ v lk (S.weak w) rp
/-- what an end of a block with a state says -/
def AtS (env : σT → Env2) (gg : σT → GD) (Q : σT → Prop) : Env2 → GD → Prop := fun r G => ∃ s, Wk r (env s) ∧ G = gg s ∧ Q s
theorem wb_join (env : σT → Env2) (gg : σT → GD) {m : Out σT} {f : σT → Out β} {Q : β → Prop} {E : Xm → Prop} (h : (m.bind f).sat Q E)
    (hs : ∀ Q' : σT → Prop, m.sat Q' E → WS X st r G { D0 with nx := AtS env gg Q' }) (k : ∀ s, (f s).sat Q E → WB X rest (env s) (gg s) D0) : WB X (st :: rest) r G D0 :=
  wb_cut (AtS env gg fun s => (f s).sat Q E) (hs _ (Out.sb h)) fun r1 G1 ⟨s, w, hg, q⟩ => by
    subst hg
    exact (k s q).weak w
theorem drop_at {xs : List α} {k : Nat} {x : α} (hx : xs[k]? = some x) : xs.drop k = x :: xs.drop (k + 1) := by
  obtain ⟨hk, hxk⟩ := List.getElem?_eq_some_iff.mp hx
  rw [List.drop_eq_getElem_cons hk, hxk]
theorem map_at {en : α → D} {xs : List α} {k : Nat} {d : D} (hd : (xs.map en)[k]? = some d) : ∃ x, xs[k]? = some x ∧ d = en x := by
  rw [List.getElem?_map] at hd
  cases hx : xs[k]? with
  | none => rw [hx] at hd; cases hd
  | some x => rw [hx] at hd; cases hd; exact ⟨x, rfl, rfl⟩
theorem wb_forO (is : List Nat) (env : σT → Env2) (gg : σT → GD) (en : α → D) (hp : PassesOwn (model X.prog X.w) X.A X.env X.xe) (hc : X.calm = true)
    (h : WI X tg e r G fun ds r2 G1 => ∃ (xs : List α) (s0 : σT) (f : σT → α → Out σT) (kk : σT → Out β) (Q : β → Prop) (E : Xm → Prop), ds = xs.map en ∧ Wk r2 (env s0) ∧ G1 = gg s0 ∧ ((Out.fold f xs s0).bind kk).sat Q E ∧
      (∀ (s : σT) (x : α) (Q' : σT → Prop), (f s x).sat Q' E → WG X tg (en x) (env s) (gg s) is fun r4 G4 => WB X body r4 G4 { D0 with nx := AtS env gg Q', ct := AtS env gg Q', bk := fun r1 G1 => WB X rest r1 G1 D0 }) ∧
      ∀ s, (kk s).sat Q E → WB X rest (env s) (gg s) D0) (hs : ∀ x, foldedSetIterable e X.env x = pure x := by intro _; rfl) : WB X (.For tg e body [] pos :: rest) r G D0 :=
  wb_cons (ws_for (is := is) hp hc (h.mono fun ds r2 G1 ⟨xs, s0, f, kk, Q, E, hd, w0, hg, h0, hb, hn⟩ => by
    subst hd hg
    refine ⟨fun k r3 G3 => AtS env gg (fun s => ((Out.fold f (xs.drop k) s).bind kk).sat Q E) r3 G3, ⟨s0, w0, rfl, h0⟩, fun k d r3 G3 hd ⟨s, w, hg, hq⟩ => ?_, fun r3 G3 ⟨s, w, hg, hq⟩ => ?_⟩
    · subst hg
      obtain ⟨x, hx, rfl⟩ := map_at hd
      rw [drop_at hx] at hq
      have hq' : (f s x).sat (fun s' => ((Out.fold f (xs.drop (k + 1)) s').bind kk).sat Q E) E := by
        have z : (((f s x).bind (Out.fold f (xs.drop (k + 1)))).bind kk).sat Q E := hq
        cases hf : f s x with
        | ok s' => rw [hf] at z; exact z
        | ex x' => rw [hf] at z; exact z
        | no => rw [hf] at z; exact z
      exact (hb s x _ hq').weak w
    · rw [List.length_map, List.drop_length] at hq
      subst hg
      exact (hn s hq).weak w) hs)
end
open Out (Rt)
section
variable {κ ν : Type} [DecidableEq κ]
def dput (kvs : List (κ × ν)) (k : κ) (v : ν) : List (κ × ν) := if (kvs.any fun p => decide (p.1 = k)) = true then kvs.map (fun p => if p.1 = k then (p.1, v) else p) else kvs ++ [(k, v)]
def dget (kvs : List (κ × ν)) (k : κ) : Option ν := (kvs.find? fun p => decide (p.1 = k)).map (·.2)
def dhas (kvs : List (κ × ν)) (k : κ) : Bool := kvs.any fun p => decide (p.1 = k)
def dmk (kvs : List (κ × ν)) : List (κ × ν) := kvs.foldl (fun acc p => dput acc p.1 p.2) []
end
/-- keys that are told apart -/
def KInj {κ : Type} (k : κ → Key) : Prop := ∀ a b, k a = k b → a = b
theorem kI_inj : KInj kI := fun _ _ h => Sum.inl.inj h
section
variable {κ ν : Type} [DecidableEq κ] {k : κ → Key} {f : ν → D}
theorem any_key (hk : KInj k) (kvs : List (κ × ν)) (x : κ) : ((eDl k f kvs).any fun kv => decide (kv.1 = k x)) = kvs.any fun p => decide (p.1 = x) := by
  unfold eDl
  rw [List.any_map]
  congr 1
  funext p
  show decide (k p.1 = k x) = decide (p.1 = x)
  by_cases h : p.1 = x
  · rw [h]; simp
  · have : ¬ k p.1 = k x := fun z => h (hk _ _ z)
    simp [h, this]
theorem putD_eDl (hk : KInj k) (kvs : List (κ × ν)) (x : κ) (v : ν) : putD (eDl k f kvs) (k x) (f v) = eDl k f (dput kvs x v) := by
  unfold putD dput
  rw [any_key hk]
  by_cases h : (kvs.any fun p => decide (p.1 = x)) = true
  · rw [if_pos h, if_pos h]
    unfold eDl
    rw [List.map_map, List.map_map]
    congr 1
    funext p
    show (if k p.1 = k x then (k p.1, f v) else (k p.1, f p.2)) = (k (if p.1 = x then (p.1, v) else p).1, f (if p.1 = x then (p.1, v) else p).2)
    by_cases hp : p.1 = x
    · rw [if_pos (by rw [hp]), if_pos hp]
    · rw [if_neg (fun z => hp (hk _ _ z)), if_neg hp]
  · rw [if_neg h, if_neg h]
    unfold eDl
    rw [List.map_append]; rfl
theorem dput_len (kvs : List (κ × ν)) (x : κ) (v : ν) : (dput kvs x v).length ≤ kvs.length + 1 := by
  unfold dput
  split
  · rw [List.length_map]; omega
  · rw [List.length_append]; exact Nat.le_refl _
end
/-- the value at a key -/
def valD (kvs : List (Key × D)) (k : Key) : Option D := (kvs.find? fun kv => decide (kv.1 = k)).map (·.2)
theorem valD_rep {K : PySem.W.Frag} {F : Hp} {k : Key} : ∀ {acc : List (Key × D)} {us : List (Key × V)}, DRep K F acc us → (valD acc k = none ∧ valV us k = none) ∨ ∃ d v, valD acc k = some d ∧ valV us k = some v ∧ Rep K F d v
  | [], us, h => by
    rw [show us = [] from h]; exact .inl ⟨rfl, rfl⟩
  | p :: acc, _, ⟨u, us', h1, h2, h3, h4⟩ => by
    subst h1
    unfold valD valV
    rw [List.find?_cons, List.find?_cons, h2]
    by_cases hk : p.1 = k
    · rw [decide_eq_true hk]
      exact .inr ⟨p.2, u.2, rfl, rfl, h3⟩
    · rw [decide_eq_false hk]
      exact valD_rep h4
theorem valD_eDl {κ ν : Type} [DecidableEq κ] {k : κ → Key} {f : ν → D} (hk : KInj k) (kvs : List (κ × ν)) (x : κ) : valD (eDl k f kvs) (k x) = (dget kvs x).map f := by
  unfold valD dget eDl
  induction kvs with
  | nil => rfl
  | cons p kvs ih =>
    rw [List.map_cons, List.find?_cons, List.find?_cons]
    show (match decide (k p.1 = k x) with | true => some (k p.1, f p.2) | false => _).map _ = _
    by_cases h : p.1 = x
    · rw [decide_eq_true (by rw [h]), decide_eq_true h]; rfl
    · rw [decide_eq_false (fun z => h (hk _ _ z)), decide_eq_false h]; exact ih
theorem dget_isSome {κ ν : Type} [DecidableEq κ] (kvs : List (κ × ν)) (x : κ) : (dget kvs x).isSome = dhas kvs x := by
  unfold dget dhas
  rw [Option.isSome_map]
  induction kvs with
  | nil => rfl
  | cons p kvs ih =>
    rw [List.find?_cons, List.any_cons]
    by_cases h : p.1 = x
    · rw [decide_eq_true h]; rfl
    · rw [decide_eq_false h, Bool.false_or]; exact ih
theorem zip_eDl {κ ν : Type} {k : κ → Key} {f : ν → D} (kvs : List (κ × ν)) : (kvs.map fun p => k p.1).zip (kvs.map fun p => f p.2) = eDl k f kvs := by
  unfold eDl
  induction kvs with
  | nil => rfl
  | cons p kvs ih => rw [List.map_cons, List.map_cons, List.map_cons, List.zip_cons_cons, ih]
section
variable {X : Cy} {e a b c o tg kx vx elt i : Expr} {es ifs : List Expr} {st : Stmt} {sts rest body orelse : List Stmt} {r : Env2} {G : GD} {pos tpos apos cpos p0 : Pos} {D0 : EndsD} {α β γ σT ρ : Type}
theorem vw_kD {K : PySem.W.Frag} {F H : Hp} {k : Key} {v : V} (h : Vw K F H (kD k) v) : v = kV k := by
  cases k with
  | inl n => exact h.int
  | inr x => exact h.str
/-- a dict that is looked at -/
theorem Vw.dics {K : PySem.W.Frag} {F H : Hp} (ex : Ex F H) {ks : List Key} {ds : List D} {v : V} (h : Vw K F H (.dic ks ds) v) : ∃ p us, v = .ref p ∧ Rd H p (.dK us) ∧ DRep K F (ks.zip ds) us := by
  obtain ⟨p, vs, rfl, k1, k2, k3⟩ := h.dic ex
  exact ⟨p, _, rfl, k1, DRep.of k2 k3⟩
def rDNin : R2 := fun y x H Q => ∃ a ov, x = .ref a ∧ DGet H a y ov ∧ Q (.bl (!ov.isSome)) H
theorem op_dnin {X : Cx} (hu : X.A.units + 1 < cLine) : OpR X (compareOp .NotIn) rDNin := fun pins s σ H y x u v Q I ry rx ⟨a, ov, ex, g, q⟩ => by
  subst ex
  cases (show v = Value.ref a from rx)
  exact d_notIn hu I g ry fun s' I' => ⟨.bl (!ov.isSome), H, I', rfl, q⟩
theorem val_some {K : PySem.W.Frag} {F : Hp} {k : Key} {acc : List (Key × D)} {us : List (Key × V)} (h : DRep K F acc us) : (valV us k).isSome = (valD acc k).isSome := by
  rcases valD_rep (k := k) h with ⟨h1, h2⟩ | ⟨d, v, h1, h2, _⟩
  · rw [h1, h2]; rfl
  · rw [h1, h2]; rfl
theorem opw_dnin {κ ν : Type} [DecidableEq κ] {k : κ → Key} {f : ν → D} {kvs : List (κ × ν)} {x : κ} {Q : Res → Prop} (hk : KInj k) (hu : X.A.units + 64 < cLine) (q : Q (.sh (.bl (!dhas kvs x)))) : OpW X (compareOp .NotIn) (kD (k x)) (eD k f kvs) Q := fun F0 T F G H r σ va vb S h1 h2 => by
  obtain ⟨p, us, rfl, z1, z2⟩ := h2.dics S.bas.fh
  rw [zip_eDl] at z2
  have hv : va = kV (k x) := vw_kD h1
  subst hv
  refine ⟨_, op_dnin (by omega), p, _, rfl, .inl ⟨us, k x, z1, rfl, rfl⟩, .sh (.bl (!dhas kvs x)), F, Ex.refl _, S, ?_, q⟩
  show V.bl _ = V.bl _
  rw [val_some z2, valD_eDl hk, Option.isSome_map, dget_isSome]
/-- d[k] -/
theorem we_dget {κ ν : Type} [DecidableEq κ] {k : κ → Key} {f : ν → D} (hk : KInj k) (hu : X.A.units + 64 < cLine) {Q : Res → Env2 → GD → Prop} (hs : NoSl i)
    (h : WE X o r G fun x r1 G1 => WE X i r1 G1 fun y r2 G2 => ∃ kvs key v, VwR r2 G2 x (eD k f kvs) ∧ vw r2 y = some (kD (k key)) ∧ dget kvs key = some v ∧ Q (.sh (f v)) r2 G2) : WE X (.Subscript o i pos) r G Q := fun F0 T F H σ lk S =>
  Run.of (pe_dget (by omega) peR peR hs) (by
    refine (h F0 T F H σ lk S).mono fun va H1 ⟨x, r1, G1, F1, e1, S1, k1, h1⟩ => ?_
    obtain ⟨F1', e1', S1', hv⟩ := hold S1 k1
    refine (h1 F0 T F1' H1 σ lk S1').mono fun vb H2 ⟨y, r2, G2, F2, e2, S2, k2, kvs, key, v, q1, q2, q3, q4⟩ => ?_
    obtain ⟨p, us, hp, z1, z2⟩ := (hv F2 G2 H2 r2 _ e2 S2 q1).dics S2.bas.fh
    subst hp
    rw [zip_eDl] at z2
    have hvb : vb = kV (k key) := vw_kD (S2.view k2 q2)
    subst hvb
    rcases valD_rep (k := k key) z2 with ⟨m1, m2⟩ | ⟨d, w, m1, m2, m3⟩
    · rw [valD_eDl hk, q3] at m1; cases m1
    · rw [valD_eDl hk, q3] at m1
      cases m1
      exact ⟨p, w, rfl, .inl ⟨us, k key, z1, rfl, m2.symm⟩, .sh (f v), r2, G2, F2, (e1.trans e1').trans e2, S2, m3, q4⟩)
/-- {} -/
theorem we_dnew {Q : Res → Env2 → GD → Prop} (q : Q (.fr (.dic [] [])) r G) : WE X (.Dict [] [] pos) r G Q := fun F0 T F H σ lk S =>
  Run.of pe_dnewK fun p hp => by
    obtain ⟨f1, f2, f3⟩ := S.bas.freshF hp
    exact ⟨.fr (.dic [] []), r, G, F, Ex.refl _, S.newH hp, ⟨p, rfl, ⟨[], upd_same, rfl, rfl⟩, f1, f2, f3, S.freshR hp⟩, q⟩
/-- d[k] = v, d an own slot -/
theorem ws_dput {κ ν : Type} [DecidableEq κ] {k : κ → Key} {f : ν → D} (hk : KInj k) (hu : X.A.units + 64 < cLine)
    (h : WE X e r G fun z r1 G1 => ∃ v r2, fz r1 z = some (f v, r2) ∧ WE X o r2 G1 fun x r3 G3 => ∃ j, x = .pk j ∧ WE X i r3 G3 fun y r4 G4 => ∃ kvs key, y = .sh (kD (k key)) ∧ r4[j]? = some (.own (eD k f kvs)) ∧ kvs.length < LIM ∧ D0.nx (r4.set j (.own (eD k f (dput kvs key v)))) G4)
    (hs : swapsWith e (some (.Subscript o i tpos)) pos.line X.env = pure false := by rfl) : WS X (.Assign [.Subscript o i tpos] e pos) r G D0 := fun F0 T F H σ lk S =>
  RunS.of (ps_dput (by omega) peR peR peR hs) ((h F0 T F H σ lk S).mono fun v0 H1 ⟨z, r1, G1, F1, e1, S1, k1, v, r2, q1, h1⟩ => by
    obtain ⟨F1', e1', S1', rp⟩ := S1.fz k1 q1
    refine (h1 F0 T F1' H1 σ lk S1').mono fun vo H2 ⟨x, r3, G3, F2, e2, S2, k2, j, hx, h2⟩ => ?_
    subst hx
    obtain ⟨k2a, _⟩ := k2
    refine (h2 F0 T F2 H2 σ lk S2).mono fun vi H3 ⟨y, r4, G4, F3, e3, S3, k3, kvs, key, hy, hj, hl, q⟩ => ?_
    subst hy
    have hvi : vi = kV (k key) := rep_kD k3
    subst hvi
    obtain ⟨p, m1, ⟨vs, m2, m3, m4⟩, m5, m6⟩ := S3.mut hj
    rw [k2a] at m1; cases m1
    have dr := DRep.of m3 m4
    rw [zip_eDl] at dr
    have dr2 := dr.put (k := k key) (Rep.mono (e2.trans e3) _ _ rp)
    rw [putD_eDl hk] at dr2
    have ow := own_dicD (H := upd H3 p (.dK (putK ((kvs.map fun p => k p.1).zip vs) (k key) v0))) dr2 upd_same
    rw [eD_dicD] at ow
    refine ⟨p, _, rfl, DPut.k m2 (by rw [dr.length]; unfold eDl; rw [List.length_map]; exact lim_lt hl), _, G4, F3, m6 _ _ ow, q⟩)
abbrev Blk (X : Cy) (scope : Scope) (P : Cy → Prop) : Prop := ∀ Y, BlkX X scope Y → P Y
/-- an item that is made: the state as it was -/
def Made (R : Env2) (G : GD) (is : List Nat) (d : D) : Res → Env2 → GD → Prop := fun z r2 G2 => ∃ r3, fz r2 z = some (d, r3) ∧ Wk (wipeD r3 is) R ∧ G2 = G
theorem WG.mono {d : D} {is : List Nat} {Q Q' : Env2 → GD → Prop} (h : WG X tg d r G is Q) (k : ∀ r G, Q r G → Q' r G) : WG X tg d r G is Q' := fun F0 T F H σ v lk S rp pins s u I rv =>
  wpAny_mono (h F0 T F H σ v lk S rp pins s u I rv) (fun _ _ ⟨σ', H', I', hw, r', G', F', e', S', q'⟩ => ⟨σ', H', I', hw, r', G', F', e', S', k _ _ q'⟩) fun _ _ x => x
/-- what is known of slots is forgotten behind an expression -/
theorem WE.wkp {Q : Res → Env2 → GD → Prop} (h : WE X e r G fun x r1 G1 => ∃ R, Wk r1 R ∧ (∀ i, x ≠ .pk i) ∧ Q x R G1) : WE X e r G Q := fun F0 T F H σ lk S =>
  (h F0 T F H σ lk S).mono fun v H1 ⟨x, r1, G1, F1, e1, S1, k1, R, w, hx, q⟩ => by
    refine ⟨x, R, G1, F1, e1, S1.weak w, ?_, q⟩
    cases x with
    | sh d => exact k1
    | pk i => exact absurd rfl (hx i)
    | fr d =>
      obtain ⟨p, z1, z2, z3, z4, z5, z6⟩ := k1
      refine ⟨p, z1, z2, z3, z4, z5, fun i e he => ?_⟩
      rcases w.get i _ he with z | z
      · cases z
      · exact z6 i e z
/-- what a comprehension asks of its turns -/
def LcPre (X : Cy) (scope : Scope) (tg e elt : Expr) (ifs : List Expr) (is : List Nat) (r : Env2) (G : GD) (Q : Res → Env2 → GD → Prop) : Prop :=
  WI X tg e r G fun ds r2 G1 => ∃ I : Nat → List D → Env2 → GD → Prop, I 0 [] (wipeD r2 is) G1 ∧ (∀ (k : Nat) (d : D) (acc : List D) (r3 : Env2) (G3 : GD), ds[k]? = some d → I k acc r3 G3 → LcTurn X scope tg elt ifs is d acc r3 G3 (I (k + 1))) ∧
      ∀ acc r3 G3, I ds.length acc r3 G3 → Q (.fr (.lst acc)) r3 G3
/-- .. its result known at R -/
def atR (Q : Res → Env2 → GD → Prop) : Res → Env2 → GD → Prop := fun x r1 G1 => ∃ R, Wk r1 R ∧ (∀ i, x ≠ .pk i) ∧ Q x R G1
theorem Wk.set {a b : Env2} (w : Wk a b) (s : Sl) : ∀ i, Wk (a.set i s) (b.set i s) := by
  induction w with
  | nil => intro i; exact .nil
  | no h ih => intro i; cases i with
    | zero => exact .eq h
    | succ i => exact .no (ih i)
  | eq h ih => intro i; cases i with
    | zero => exact .eq h
    | succ i => exact .eq (ih i)
theorem we_lcQ {scope : Scope} (own : List (Str × Nat)) {Q : Res → Env2 → GD → Prop} (hc : X.calm = true) (hN : X.N.Nodup) (ok : BlkOk X.N X.env.scope scope own) (h : LcPre X scope tg e elt ifs (own.map (·.2)) r G (atR Q)) (hs : ∀ x, foldedSetIterable e X.env x = pure x := by intro _; rfl) :
    WE X (.ListComp elt [⟨tg, e, ifs, 0⟩] scope pos) r G Q := WE.wkp (we_lc own hc hN ok h hs)
/-- [elt for tg in e], nothing that may fail -/
theorem lc0_pre {scope : Scope} (own : List (Str × Nat)) (R : Env2) {en : α → D} (ey : β → D) (g : α → β) {Q : Res → Env2 → GD → Prop}
    (h : WI X tg e r G fun ds r2 G1 => ∃ xs : List α, ds = xs.map en ∧ xs.length ≤ LIM ∧ Wk (wipeD r2 (own.map (·.2))) R ∧
      (∀ x, Blk X scope fun Y => WG Y tg (en x) R G1 (own.map (·.2)) fun r3 G3 => Blk X scope fun Y => WE Y elt r3 G3 (Made R G1 (own.map (·.2)) (ey (g x)))) ∧ Q (.fr (.lst ((xs.map g).map ey))) R G1) : LcPre X scope tg e elt [] (own.map (·.2)) r G (atR Q) :=
  h.mono fun ds r2 G1 ⟨xs, hd, hl, w, hb, q⟩ => by
    subst hd
    refine ⟨fun k acc r3 G3 => Wk r3 R ∧ G3 = G1 ∧ acc = ((xs.take k).map g).map ey, ⟨w, rfl, rfl⟩, fun k d acc r3 G3 hd ⟨w3, hG, ha⟩ => ?_, fun acc r3 G3 ⟨w3, hG, ha⟩ => ?_⟩
    · subst hG ha
      obtain ⟨x, hx, rfl⟩ := map_at hd
      have hlt : k < xs.length := (List.getElem?_eq_some_iff.mp hx).1
      intro Y hY
      refine WG.mono (WG.weak w3 (hb x Y hY)) fun r4 G4 q' Y hY => (q' Y hY).mono fun zz r5 G5 ⟨r6, m1, m2, m3⟩ => ⟨ey (g x), r6, m1, ?_, m2, m3, ?_⟩
      · rw [List.length_map, List.length_map, List.length_take]; omega
      · rw [List.take_add_one, hx, List.map_append, List.map_append]; rfl
    · subst hG ha
      rw [List.length_map, List.take_length]
      exact ⟨R, w3, (fun i z => by cases z), q⟩
/-- [elt for tg in e if c] -/
theorem filter_at {p : α → Bool} {xs : List α} {k : Nat} {x : α} (hx : xs[k]? = some x) : (xs.take (k + 1)).filter p = (xs.take k).filter p ++ (if p x = true then [x] else []) := by
  rw [List.take_add_one, hx, List.filter_append]
  congr 1
  show List.filter p [x] = _
  by_cases h : p x = true <;> simp [h]
theorem lc1_pre {scope : Scope} (own : List (Str × Nat)) (R : Env2) {en : α → D} (ey : β → D) (p : α → Bool) (g : α → β) {Q : Res → Env2 → GD → Prop}
    (h : WI X tg e r G fun ds r2 G1 => ∃ xs : List α, ds = xs.map en ∧ xs.length ≤ LIM ∧ Wk (wipeD r2 (own.map (·.2))) R ∧
      (∀ x, Blk X scope fun Y => WG Y tg (en x) R G1 (own.map (·.2)) fun r3 G3 => Blk X scope fun Y => WT Y c r3 G3 fun b r4 G4 => b = p x ∧
        (p x = true → Blk X scope fun Y => WE Y elt r4 G4 (Made R G1 (own.map (·.2)) (ey (g x)))) ∧ (p x = false → Wk (wipeD r4 (own.map (·.2))) R ∧ G4 = G1)) ∧ Q (.fr (.lst (((xs.filter p).map g).map ey))) R G1) : LcPre X scope tg e elt [c] (own.map (·.2)) r G (atR Q) :=
  h.mono fun ds r2 G1 ⟨xs, hd, hl, w, hb, q⟩ => by
    subst hd
    refine ⟨fun k acc r3 G3 => Wk r3 R ∧ G3 = G1 ∧ acc = (((xs.take k).filter p).map g).map ey, ⟨w, rfl, rfl⟩, fun k d acc r3 G3 hd ⟨w3, hG, ha⟩ => ?_, fun acc r3 G3 ⟨w3, hG, ha⟩ => ?_⟩
    · subst hG ha
      obtain ⟨x, hx, rfl⟩ := map_at hd
      have hlt : k < xs.length := (List.getElem?_eq_some_iff.mp hx).1
      intro Y hY
      refine WG.mono (WG.weak w3 (hb x Y hY)) fun r4 G4 q' Y hY => (q' Y hY).mono fun b r5 G5 ⟨hbp, q1, q2⟩ => ⟨fun hb1 Y hY => ?_, fun hb0 => ?_⟩
      · have hp : p x = true := hbp ▸ hb1
        refine (q1 hp Y hY).mono fun zz r6 G6 ⟨r7, m1, m2, m3⟩ => ⟨ey (g x), r7, m1, ?_, m2, m3, ?_⟩
        · rw [List.length_map, List.length_map]
          have h1 := List.length_filter_le p (xs.take k)
          rw [List.length_take] at h1
          omega
        · rw [filter_at hx, if_pos hp, List.map_append, List.map_append]; rfl
      · have hp : p x = false := hbp ▸ hb0
        obtain ⟨w5, hG5⟩ := q2 hp
        refine ⟨w5, hG5, ?_⟩
        rw [filter_at hx, if_neg (by rw [hp]; exact Bool.false_ne_true), List.append_nil]
    · subst hG ha
      rw [List.length_map, List.take_length]
      exact ⟨R, w3, (fun i z => by cases z), q⟩
/-- [elt for tg in e if ..], by a mirror with a state -/
theorem compS_step {f : σT → α → Out (Option β × σT)} {xs : List α} {acc : List β} {s : σT} {x : α} {kk : List β × σT → Out γ} {Q : γ → Prop} {E : Xm → Prop} (h : ((Out.compS f (x :: xs) acc s).bind kk).sat Q E) :
    (f s x).sat (fun t => ((Out.compS f xs (match t.1 with | some y => acc ++ [y] | none => acc) t.2).bind kk).sat Q E) E := by
  have z : (((f s x).bind fun t => Out.compS f xs (match t.1 with | some y => acc ++ [y] | none => acc) t.2).bind kk).sat Q E := h
  cases hf : f s x with
  | ok t => rw [hf] at z; exact z
  | ex x' => rw [hf] at z; exact z
  | no => rw [hf] at z; exact z
theorem lcS_pre {scope : Scope} (own : List (Str × Nat)) (R : Env2) (gg : σT → GD) {en : α → D} (ey : β → D) {Q : Res → Env2 → GD → Prop}
    (h : WI X tg e r G fun ds r2 G1 => ∃ (xs : List α) (s0 : σT) (f : σT → α → Out (Option β × σT)) (kk : List β × σT → Out γ) (Q0 : γ → Prop) (E : Xm → Prop), ds = xs.map en ∧ xs.length ≤ LIM ∧ Wk (wipeD r2 (own.map (·.2))) R ∧ G1 = gg s0 ∧ ((Out.compS f xs [] s0).bind kk).sat Q0 E ∧
      (∀ s x (Q' : Option β × σT → Prop), (f s x).sat Q' E → Blk X scope fun Y => WG Y tg (en x) R (gg s) (own.map (·.2)) fun r3 G3 => match ifs with
        | [] => Blk X scope fun Y => WE Y elt r3 G3 fun z r4 G4 => ∃ y s' r5, fz r4 z = some (ey y, r5) ∧ Wk (wipeD r5 (own.map (·.2))) R ∧ G4 = gg s' ∧ Q' (some y, s')
        | [c] => Blk X scope fun Y => WT Y c r3 G3 fun b r4 G4 => (b = true → Blk X scope fun Y => WE Y elt r4 G4 fun z r5 G5 => ∃ y s' r6, fz r5 z = some (ey y, r6) ∧ Wk (wipeD r6 (own.map (·.2))) R ∧ G5 = gg s' ∧ Q' (some y, s')) ∧ (b = false → ∃ s', Wk (wipeD r4 (own.map (·.2))) R ∧ G4 = gg s' ∧ Q' (none, s'))
        | _ => False) ∧ ∀ ys s', (kk (ys, s')).sat Q0 E → Q (.fr (.lst (ys.map ey))) R (gg s')) : LcPre X scope tg e elt ifs (own.map (·.2)) r G (atR Q) :=
  h.mono fun ds r2 G1 ⟨xs, s0, f, kk, Q0, E, hd, hl, w, hg, h0, hb, hq⟩ => by
    subst hd hg
    refine ⟨fun k acc r3 G3 => ∃ ys s, Wk r3 R ∧ G3 = gg s ∧ acc = ys.map ey ∧ ys.length ≤ k ∧ ((Out.compS f (xs.drop k) ys s).bind kk).sat Q0 E, ⟨[], s0, w, rfl, rfl, Nat.le_refl _, h0⟩, fun k d acc r3 G3 hd ⟨ys, s, w3, hG, ha, hly, hq3⟩ => ?_, fun acc r3 G3 ⟨ys, s, w3, hG, ha, hly, hq3⟩ => ?_⟩
    · subst hG ha
      obtain ⟨x, hx, rfl⟩ := map_at hd
      have hlt : k < xs.length := (List.getElem?_eq_some_iff.mp hx).1
      rw [drop_at hx] at hq3
      have st := hb s x _ (compS_step hq3)
      have lim : (ys.map ey).length < LIM := by rw [List.length_map]; omega
      intro Y hY
      refine WG.mono (WG.weak w3 (st Y hY)) fun r4 G4 q' => ?_
      match ifs, q' with
      | [], q' =>
        refine fun Y hY => (q' Y hY).mono fun zz r5 G5 ⟨y, s', r6, m1, m2, m3, m4⟩ => ⟨ey y, r6, m1, lim, ys ++ [y], s', m2, m3, by rw [List.map_append]; rfl, by rw [List.length_append]; exact Nat.succ_le_succ hly, m4⟩
      | [c], q' =>
        refine fun Y hY => (q' Y hY).mono fun b r5 G5 ⟨q1, q2⟩ => ⟨fun hb1 Y hY => ?_, fun hb0 => ?_⟩
        · exact (q1 hb1 Y hY).mono fun zz r6 G6 ⟨y, s', r7, m1, m2, m3, m4⟩ => ⟨ey y, r7, m1, lim, ys ++ [y], s', m2, m3, by rw [List.map_append]; rfl, by rw [List.length_append]; exact Nat.succ_le_succ hly, m4⟩
        · obtain ⟨s', m2, m3, m4⟩ := q2 hb0
          exact ⟨ys, s', m2, m3, rfl, Nat.le_succ_of_le hly, m4⟩
      | _ :: _ :: _, q' => exact q'.elim
    · subst hG ha
      rw [List.length_map, List.drop_length] at hq3
      exact ⟨R, w3, (fun i z => by cases z), hq ys s hq3⟩
end
open Out (Rt)
section
variable {κ ν : Type} [DecidableEq κ]
theorem dmk_snoc (kvs : List (κ × ν)) (p : κ × ν) : dmk (kvs ++ [p]) = dput (dmk kvs) p.1 p.2 := by unfold dmk; rw [List.foldl_append]; rfl
theorem dmk_len : ∀ (kvs : List (κ × ν)), (dmk kvs).length ≤ kvs.length := by
  have key : ∀ (kvs acc : List (κ × ν)), (kvs.foldl (fun acc p => dput acc p.1 p.2) acc).length ≤ acc.length + kvs.length := by
    intro kvs
    induction kvs with
    | nil => intro acc; exact Nat.le_refl _
    | cons p kvs ih =>
      intro acc
      rw [List.foldl_cons, List.length_cons]
      have h1 := ih (dput acc p.1 p.2)
      have h2 := dput_len acc p.1 p.2
      omega
  intro kvs
  have := key kvs []
  rw [List.length_nil, Nat.zero_add] at this
  exact this
end
section
variable {X : Cy} {e a b c o tg kx vx elt i : Expr} {es ifs : List Expr} {st : Stmt} {sts rest body orelse : List Stmt} {r : Env2} {G : GD} {pos tpos apos cpos p0 : Pos} {D0 : EndsD} {α β γ σT ρ : Type}
/-- {k: v for tg in e}, nothing that may fail -/
theorem we_dc0 {κ ν : Type} [DecidableEq κ] {scope : Scope} (own : List (Str × Nat)) (R : Env2) {en : α → D} (ek : κ → Key) (ev : ν → D) (hk : KInj ek) (g : α → κ × ν) {Q : Res → Env2 → GD → Prop} (hc : X.calm = true) (hN : X.N.Nodup) (ok : BlkOk X.N X.env.scope scope own)
    (h : WI X tg e r G fun ds r2 G1 => ∃ xs : List α, ds = xs.map en ∧ xs.length ≤ LIM ∧ Wk (wipeD r2 (own.map (·.2))) R ∧
      (∀ x, Blk X scope fun Y => WG Y tg (en x) R G1 (own.map (·.2)) fun r3 G3 => Blk X scope fun Y => WE Y kx r3 G3 fun z r4 G4 => z = .sh (kD (ek (g x).1)) ∧ Blk X scope fun Y => WE Y vx r4 G4 (Made R G1 (own.map (·.2)) (ev (g x).2))) ∧ Q (.fr (eD ek ev (dmk (xs.map g)))) R G1)
    (hs : ∀ x, foldedSetIterable e X.env x = pure x := by intro _; rfl) : WE X (.DictComp kx vx [⟨tg, e, [], 0⟩] scope pos) r G Q :=
  WE.wkp (we_dc own hc hN ok (h.mono fun ds r2 G1 ⟨xs, hd, hl, w, hb, q⟩ => by
    subst hd
    refine ⟨fun k acc r3 G3 => Wk r3 R ∧ G3 = G1 ∧ acc = eDl ek ev (dmk ((xs.take k).map g)), ⟨w, rfl, rfl⟩, fun k d acc r3 G3 hd ⟨w3, hG, ha⟩ => ?_, fun acc r3 G3 ⟨w3, hG, ha⟩ => ?_⟩
    · subst hG ha
      obtain ⟨x, hx, rfl⟩ := map_at hd
      have hlt : k < xs.length := (List.getElem?_eq_some_iff.mp hx).1
      intro Y hY
      refine WG.mono (WG.weak w3 (hb x Y hY)) fun r4 G4 q' Y hY => (q' Y hY).mono fun z r5 G5 ⟨hz, q2⟩ => ⟨ek (g x).1, hz, fun Y hY => (q2 Y hY).mono fun zz r6 G6 ⟨r7, m1, m2, m3⟩ => ⟨ev (g x).2, r7, m1, ?_, m2, m3, ?_⟩⟩
      · unfold eDl
        rw [List.length_map]
        have h1 := dmk_len ((xs.take k).map g)
        rw [List.length_map, List.length_take] at h1
        omega
      · rw [putD_eDl hk, List.take_add_one, hx, List.map_append]
        show _ = eDl ek ev (dmk (List.map g (List.take k xs) ++ [g x]))
        rw [dmk_snoc]
    · subst hG ha
      rw [List.length_map, List.take_length, eD_dicD]
      exact ⟨R, w3, (fun i z => by cases z), q⟩) hs)
theorem we_ifP {en : α → D} {va vb : α} {Q : Res → Env2 → GD → Prop} (h : WT X c r G fun d r1 G1 => (d = true → WE X a r1 G1 fun x r2 G2 => x = .sh (en va) ∧ r2 = r1 ∧ G2 = G1) ∧ (d = false → WE X b r1 G1 fun x r2 G2 => x = .sh (en vb) ∧ r2 = r1 ∧ G2 = G1) ∧ Q (.sh (en (if d = true then va else vb))) r1 G1) : WE X (.IfExp c a b pos) r G Q :=
  we_ifExp (h.mono fun d r1 G1 ⟨h1, h2, q⟩ => ⟨fun hd => (h1 hd).mono fun x r2 G2 ⟨m1, m2, m3⟩ => by subst m1 m2 m3; rw [if_pos hd] at q; exact q, fun hd => (h2 hd).mono fun x r2 G2 ⟨m1, m2, m3⟩ => by subst m1 m2 m3; rw [if_neg (by rw [hd]; exact Bool.false_ne_true)] at q; exact q⟩)
/-- a test as a value, joined -/
theorem we_andP {c2 : Bool} {Q : Res → Env2 → GD → Prop} (h : WE X a r G fun x r1 G1 => ∃ c1, x = .sh (.bl c1) ∧ (c1 = true → WE X (.BoolOp .And (b :: es) pos) r1 G1 fun y r2 G2 => y = .sh (.bl c2) ∧ r2 = r1 ∧ G2 = G1) ∧ Q (.sh (.bl (c1 && c2))) r1 G1) : WE X (.BoolOp .And (a :: b :: es) pos) r G Q :=
  we_and (h.mono fun x r1 G1 ⟨c1, hx, h1, q⟩ => ⟨c1, hx, fun hc => (h1 hc).mono fun y r2 G2 ⟨m1, m2, m3⟩ => by subst m1 m2 m3; rw [hc, Bool.true_and] at q; exact q, fun hc => by rw [hc, Bool.false_and] at q; exact q⟩)
/-- the same of tests -/
theorem WW.monoT {Q Q' : Bool → Env2 → GD → Prop} (h : WW X e r G Q) (k : ∀ x r' G', Q x r' G' → Q' x r' G') : WW X e r G Q' := fun F0 T F H σ lk S w pins s I =>
  wpAny_mono (h F0 T F H σ lk S w pins s I) (fun _ _ ⟨H', I', r', G', F', a, b, q⟩ => ⟨H', I', r', G', F', a, b, k _ _ _ q⟩) fun _ _ x => x
end
section
variable {α β γ : Type}
/-- an item by a Python index -/
def pix (xs : List α) (i : Int) : Option α := (ixN xs.length i).bind fun j => xs[j]?
theorem atD_map {f : α → D} {xs : List α} {i : Int} {x : α} (h : pix xs i = some x) : atD (xs.map f) i = some (f x) := by
  unfold pix at h
  unfold atD
  rw [List.length_map]
  cases e : ixN xs.length i with
  | none => rw [e] at h; cases h
  | some j =>
    rw [e] at h
    show (xs.map f)[j]? = some (f x)
    rw [List.getElem?_map, show xs[j]? = some x from h]; rfl
/-- a slice by Python bounds -/
def pcut (xs : List α) (lo hi : Option Int) : List α := (xs.drop (HT.sIx xs.length 0 lo)).take (HT.sIx xs.length xs.length hi - HT.sIx xs.length 0 lo)
theorem cutD_map {f : α → D} (xs : List α) (lo hi : Option Int) : cutD (xs.map f) lo hi = (pcut xs lo hi).map f := by
  unfold cutD pcut
  rw [List.length_map, List.map_take, List.map_drop]
theorem pcut_from (xs : List α) (j : Nat) : pcut xs (some (j : Int)) none = xs.drop j := by
  unfold pcut
  rw [HT.sIx_nat, HT.sIx_none]
  by_cases h : j ≤ xs.length
  · rw [Nat.min_eq_left h, List.take_of_length_le (by rw [List.length_drop]; exact Nat.le_refl _)]
  · rw [Nat.min_eq_right (by omega), List.drop_length, List.drop_eq_nil_of_le (by omega)]
    simp
theorem pcut_to (xs : List α) (j : Nat) : pcut xs none (some (j : Int)) = xs.take j := by
  unfold pcut
  rw [HT.sIx_nat, HT.sIx_none, List.drop_zero, Nat.sub_zero]
  by_cases h : j ≤ xs.length
  · rw [Nat.min_eq_left h]
  · rw [Nat.min_eq_right (by omega), List.take_length, List.take_of_length_le (by omega)]
/-- codes whose equality is that of the values -/
structure EqC (en : α → D) (n : Nat) : Prop where
  ok : ∀ a, okD n (en a)
  eq : ∀ a b, eqD (en a) (en b) = true ↔ a = b
theorem EqC.dec [DecidableEq α] {en : α → D} {n : Nat} (h : EqC en n) (a b : α) : eqD (en a) (en b) = decide (a = b) := by
  by_cases e : a = b
  · rw [decide_eq_true e]; exact (h.eq a b).mpr e
  · rw [decide_eq_false e]
    cases q : eqD (en a) (en b) with
    | false => rfl
    | true => exact absurd ((h.eq a b).mp q) e
theorem eqc_int : EqC eI 0 := ⟨fun _ => trivial, fun a b => by
  show PyData.eqv (.int a) (.int b) = true ↔ a = b
  exact beq_iff_eq⟩
end
open Out (Rt)
abbrev S := { x : Str // PyData.strOk x = true }
abbrev eZ : S → D := fun s => .str s.1
abbrev kZ : S → Key := fun s => Sum.inr s.1
theorem kZ_inj : KInj kZ := fun a b h => Subtype.ext (Sum.inr.inj h)
theorem eqc_str : EqC eZ 0 := ⟨fun a => a.2, fun a b => by
  show PyData.eqv (.str a.1) (.str b.1) = true ↔ a = b
  rw [show PyData.eqv (.str a.1) (.str b.1) = (a.1 == b.1) from rfl, beq_iff_eq]
  exact ⟨Subtype.ext, congrArg _⟩⟩
theorem eqv_all {α : Type} {f : α → D} {n : Nat} (h : EqC f n) : ∀ xs ys : List α, PyData.eqvAll (toPs (xs.map f)) (toPs (ys.map f)) = true ↔ xs = ys
  | [], [] => by simp [toPs, PyData.eqvAll]
  | [], y :: ys => by simp [toPs, PyData.eqvAll]
  | x :: xs, [] => by simp [toPs, PyData.eqvAll]
  | x :: xs, y :: ys => by
    show (PyData.eqv (toP (f x)) (toP (f y)) && PyData.eqvAll (toPs (xs.map f)) (toPs (ys.map f))) = true ↔ _
    rw [Bool.and_eq_true, eqv_all h xs ys, show PyData.eqv (toP (f x)) (toP (f y)) = true ↔ x = y from h.eq x y, List.cons.injEq]
theorem eqc_lst {α : Type} {f : α → D} {n : Nat} (h : EqC f n) : EqC (eL f) (n + 1) := ⟨fun xs d hd => by
  obtain ⟨x, _, rfl⟩ := List.mem_map.mp hd
  exact h.ok x, fun a b => eqv_all h a b⟩
section
variable {X : Cy} {e a b c o tg kx vx elt i : Expr} {es ifs : List Expr} {st : Stmt} {sts rest body orelse : List Stmt} {r : Env2} {G : GD} {pos tpos apos cpos p0 : Pos} {D0 : EndsD} {α β γ σT ρ : Type}
theorem opw_eqC [DecidableEq α] {en : α → D} {n : Nat} (h : EqC en n) (hu : X.A.units + 64 < cLine) (x y : α) {Q : Res → Prop} (q : Q (.sh (.bl (decide (x = y))))) (hn : n ≤ 64 := by decide) : OpW X (compareOp .Eq) (en x) (en y) Q :=
  opw_eqD hu (h.ok x) (h.ok y) hn (by rw [h.dec]; exact q)
theorem t_cat {f : α → D} (xs ys : List α) {Q : Res → Prop} (hl : xs.length + ys.length ≤ LIM) (q : Q (.fr (.lst ((xs ++ ys).map f)))) : OpW X (binaryOp .Add) (.lst (xs.map f)) (.lst (ys.map f)) Q :=
  opw_cat (by rw [List.length_map, List.length_map]; exact hl) (by rw [List.map_append] at q; exact q)
theorem t_catT {f : α → D} (xs ys : List α) {Q : Res → Prop} (hl : xs.length + ys.length ≤ LIM) (q : Q (.sh (.tup ((xs ++ ys).map f)))) : OpW X (binaryOp .Add) (.tup (xs.map f)) (.tup (ys.map f)) Q :=
  opw_catT (by rw [List.length_map, List.length_map]; exact hl) (by rw [List.map_append] at q; exact q)
theorem t_len {f : α → D} (xs : List α) {Q : Res → Prop} (q : Q (.sh (.int (xs.length : Nat)))) : CallW1 X (.builtin "len") (.lst (xs.map f)) Q := c_len (by rw [List.length_map]; exact q)
theorem t_lenT {f : α → D} (xs : List α) {Q : Res → Prop} (q : Q (.sh (.int (xs.length : Nat)))) : CallW1 X (.builtin "len") (.tup (xs.map f)) Q := c_lenT (by rw [List.length_map]; exact q)
theorem t_ix {f : α → D} {xs : List α} {i : Int} {x : α} {Q : Res → Prop} (h : pix xs i = some x) (q : Q (.sh (f x))) : IxW X (.lst (xs.map f)) (.int i) Q := ixw_lst (atD_map h) q
theorem t_ixT {f : α → D} {xs : List α} {i : Int} {x : α} {Q : Res → Prop} (h : pix xs i = some x) (q : Q (.sh (f x))) : IxW X (.tup (xs.map f)) (.int i) Q := ixw_tup (atD_map h) q
theorem t_sl {f : α → D} {xs : List α} {lo hi : Option Int} {Q : Res → Prop} (q : Q (.fr (.lst ((pcut xs lo hi).map f)))) : SlW X (.lst (xs.map f)) lo hi Q := slw_lst (by rw [cutD_map]; exact q)
theorem t_slT {f : α → D} {xs : List α} {lo hi : Option Int} {Q : Res → Prop} (q : Q (.sh (.tup ((pcut xs lo hi).map f)))) : SlW X (.tup (xs.map f)) lo hi Q := slw_tup (by rw [cutD_map]; exact q)
/-- xs.append(e), xs an own slot -/
theorem we_appendT {f : α → D} {Q : Res → Env2 → GD → Prop}
    (h : WE X o r G fun x r1 G1 => ∃ i xs0, x = .pk i ∧ r1[i]? = some (.own (.lst (List.map f xs0))) ∧ WE X e r1 G1 fun y r2 G2 => ∃ z r3 xs, fz r2 y = some (f z, r3) ∧ r3[i]? = some (.own (.lst (List.map f xs))) ∧ xs.length < LIM ∧ Q (.sh .non) (r3.set i (.own (.lst ((xs ++ [z]).map f)))) G2)
    (hbase : attributeBase o "append" X.env (eval o X.env) = eval o X.env := by rfl)
    (hfew : ((backTo cpos (starEach [e] X.env)).all (fun x => !x.1) && (backToKw cpos (keywordEach [] X.env)).all (fun x => x.1.isSome) && decide (([e] : List Expr).length + ([] : List Keyword).length + (if ([] : List Keyword).isEmpty then 0 else 1) < 30)) = true := by rfl)
    (hline : (apos.endLine == cpos.line) = true := by rfl) (hs : starEach [e] X.env = (false, eval e X.env) :: starEach [] X.env := by rfl) (hplain : (backTo cpos (starEach [] X.env)).any (·.1) = false := by rfl) :
    WE X (.Call (.Attribute o "append" apos) [e] [] cpos) r G Q :=
  we_append (h.mono fun x r1 G1 ⟨i, xs0, h1, h2, h3⟩ => ⟨i, _, h1, h2, h3.mono fun y r2 G2 ⟨z, r3, xs, k1, k2, k3, k4⟩ => ⟨f z, r3, _, k1, k2, by rw [List.length_map]; exact k3, by rw [List.map_append] at k4; exact k4⟩⟩) hbase hfew hline hs hplain
theorem we_extendT {f : α → D} {Q : Res → Env2 → GD → Prop}
    (h : WE X o r G fun x r1 G1 => ∃ i xs0, x = .pk i ∧ r1[i]? = some (.own (.lst (List.map f xs0))) ∧ WE X e r1 G1 fun y r2 G2 => ∃ zs r3 xs, fz r2 y = some (.lst (List.map f zs), r3) ∧ r3[i]? = some (.own (.lst (List.map f xs))) ∧ xs.length + zs.length ≤ LIM ∧ Q (.sh .non) (r3.set i (.own (.lst ((xs ++ zs).map f)))) G2)
    (hbase : attributeBase o "extend" X.env (eval o X.env) = eval o X.env := by rfl)
    (hfew : ((backTo cpos (starEach [e] X.env)).all (fun x => !x.1) && (backToKw cpos (keywordEach [] X.env)).all (fun x => x.1.isSome) && decide (([e] : List Expr).length + ([] : List Keyword).length + (if ([] : List Keyword).isEmpty then 0 else 1) < 30)) = true := by rfl)
    (hline : (apos.endLine == cpos.line) = true := by rfl) (hs : starEach [e] X.env = (false, eval e X.env) :: starEach [] X.env := by rfl) (hplain : (backTo cpos (starEach [] X.env)).any (·.1) = false := by rfl) :
    WE X (.Call (.Attribute o "extend" apos) [e] [] cpos) r G Q :=
  we_extend (h.mono fun x r1 G1 ⟨i, xs0, h1, h2, h3⟩ => ⟨i, _, h1, h2, h3.mono fun y r2 G2 ⟨zs, r3, xs, k1, k2, k3, k4⟩ => ⟨_, r3, _, k1, k2, by rw [List.length_map, List.length_map]; exact k3, by rw [List.map_append] at k4; exact k4⟩⟩) hbase hfew hline hs hplain
def penumF (k : Nat) : List α → List (Int × α)
  | [] => []
  | x :: xs => ((k : Int), x) :: penumF (k + 1) xs
/-- enumerate -/
def penum (xs : List α) : List (Int × α) := penumF 0 xs
theorem enum_map {f : α → D} : ∀ (xs : List α) (k : Nat), enumD k (xs.map f) = (penumF k xs).map (eP eI f)
  | [], k => rfl
  | x :: xs, k => by
    rw [List.map_cons]
    show D.tup [.int (k : Int), f x] :: enumD (k + 1) (xs.map f) = _
    rw [enum_map xs (k + 1)]; rfl
theorem penumF_len : ∀ (xs : List α) (k : Nat), (penumF k xs).length = xs.length
  | [], _ => rfl
  | x :: xs, k => by unfold penumF; rw [List.length_cons, List.length_cons, penumF_len xs]
section
variable {elts : List Expr} {kk : Nat}
theorem ti_lst {f : α → D} {Q : List D → Env2 → GD → Prop} (h : WE X e r G fun x r1 G1 => ∃ xs r2, fz r1 x = some (.lst (List.map f xs), r2) ∧ (xs.length ≤ LIM → Q (xs.map f) r2 G1)) : WI X tg e r G Q :=
  wi_lst (h.mono fun x r1 G1 ⟨xs, r2, h1, h2⟩ => ⟨_, r2, h1, fun hl => h2 (by rw [List.length_map] at hl; exact hl)⟩)
theorem ti_tup {f : α → D} {Q : List D → Env2 → GD → Prop} (h : WE X e r G fun x r1 G1 => ∃ xs r2, fz r1 x = some (.tup (List.map f xs), r2) ∧ (xs.length ≤ LIM → Q (xs.map f) r2 G1)) : WI X tg e r G Q :=
  wi_tup (h.mono fun x r1 G1 ⟨xs, r2, h1, h2⟩ => ⟨_, r2, h1, fun hl => h2 (by rw [List.length_map] at hl; exact hl)⟩)
theorem ti_enumT {f : α → D} {Q : List D → Env2 → GD → Prop} (hg : Gl X "enumerate") (hm : X.mg "enumerate" = none) (h : WE X a r G fun x r1 G1 => ∃ xs r2, fz r1 x = some (.tup (List.map f xs), r2) ∧ ((penum xs).length ≤ LIM → Q ((penum xs).map (eP eI f)) r2 G1)) (hst : starEach [a] X.env = [(false, eval a X.env)] := by rfl) :
    WI X (.Tuple elts kk tpos) (.Call (.Name "enumerate" p0) [a] [] pos) r G Q :=
  wi_enumT hg hm (h.mono fun x r1 G1 ⟨xs, r2, h1, h2⟩ => ⟨_, r2, h1, fun hl => by rw [enum_map]; exact h2 (by unfold penum; rw [penumF_len]; rw [List.length_map] at hl; exact hl)⟩) hst
theorem ti_keys {κ ν : Type} {k : κ → Key} {f : ν → D} {Q : List D → Env2 → GD → Prop} (h : WE X e r G fun x r1 G1 => ∃ kvs r2, fz r1 x = some (eD k f kvs, r2) ∧ ((kvs.map (·.1)).length ≤ LIM → Q ((kvs.map (·.1)).map fun x => kD (k x)) r2 G1)) : WI X tg e r G Q :=
  wi_keys (h.mono fun x r1 G1 ⟨kvs, r2, h1, h2⟩ => ⟨_, _, r2, h1, fun hl => by
    rw [List.length_map] at hl
    have := h2 (by rw [List.length_map]; exact hl)
    rw [List.map_map] at this ⊢
    exact this⟩)
end
/-- sorted(d), the keys ints -/
theorem t_sortedD {ν : Type} {f : ν → D} {Q : Res → Prop} (kvs : List (Int × ν)) (hcalm : X.calm = true) (q : Q (.fr (.lst ((isort (kvs.map (·.1))).map D.int)))) : CallW1 X (.builtin "sorted") (eD kI f kvs) Q := by
  have := c_sortedD (X := X) (ks := kvs.map (·.1)) (ds := kvs.map fun p => f p.2) hcalm q
  rw [List.map_map] at this
  exact this
end
open Out (Rt)
/-- a text of the mirrors -/
abbrev zs (x : Str) (h : PyData.strOk x = true := by decide) : S := ⟨x, h⟩
section
variable {X : Cy} {e a b c o tg kx vx elt i : Expr} {es ifs : List Expr} {st : Stmt} {sts rest body orelse : List Stmt} {r : Env2} {G : GD} {pos tpos apos cpos p0 : Pos} {D0 : EndsD} {α β γ σT ρ : Type}
/-- [elt for tg in e if ..], by a mirror with a state -/
theorem lcS_preP {scope : Scope} (own : List (Str × Nat)) (R : Env2) (gg : σT → GD) {en : α → D} (ey : β → D) {Q : Res → Env2 → GD → Prop}
    (h : WI X tg e r G fun ds r2 G1 => ∃ (xs : List α) (s0 : σT) (f : σT → α → Out (Option β × σT)) (kk : List β × σT → Out γ) (Q0 : γ → Prop) (E : Xm → Prop), ds = xs.map en ∧ xs.length ≤ LIM ∧ Wk (wipeD r2 (own.map (·.2))) R ∧ G1 = gg s0 ∧ ((Out.compS f xs [] s0).bind kk).sat Q0 E ∧
      (∀ s x (Q' : Option β × σT → Prop), (f s x).sat Q' E → Blk X scope fun Y => WG Y tg (en x) R (gg s) (own.map (·.2)) fun r3 G3 => match ifs with
        | [] => Blk X scope fun Y => WE Y elt r3 G3 fun z r4 G4 => ∃ y s' r5, fz r4 z = some (ey y, r5) ∧ Wk (wipeD r5 (own.map (·.2))) R ∧ G4 = gg s' ∧ Q' (some y, s')
        | [c] => Blk X scope fun Y => WT Y c r3 G3 fun b r4 G4 => (b = true → Blk X scope fun Y => WE Y elt r4 G4 fun z r5 G5 => ∃ y s' r6, fz r5 z = some (ey y, r6) ∧ Wk (wipeD r6 (own.map (·.2))) R ∧ G5 = gg s' ∧ Q' (some y, s')) ∧ (b = false → ∃ s', Wk (wipeD r4 (own.map (·.2))) R ∧ G4 = gg s' ∧ Q' (none, s'))
        | _ => False) ∧ ∀ p : List β × σT, (kk p).sat Q0 E → Q (.fr (.lst (p.1.map ey))) R (gg p.2)) : LcPre X scope tg e elt ifs (own.map (·.2)) r G (atR Q) :=
  lcS_pre own R gg ey (h.mono fun ds r2 G1 ⟨xs, s0, f, kk, Q0, E, h1, h2, h3, h4, h5, h6, h7⟩ => ⟨xs, s0, f, kk, Q0, E, h1, h2, h3, h4, h5, h6, fun ys s' q => h7 (ys, s') q⟩)
theorem flat_one : ∀ (n : Nat) (x : α), (List.replicate n [x]).flatten = List.replicate n x
  | 0, _ => rfl
  | n + 1, x => by rw [List.replicate_succ, List.flatten_cons, flat_one n x, List.replicate_succ]; rfl
/-- dict(pairs) -/
theorem fold_putD {κ ν : Type} [DecidableEq κ] {k : κ → Key} {f : ν → D} (hk : KInj k) : ∀ (xs acc : List (κ × ν)), (eDl k f xs).foldl (fun acc kv => putD acc kv.1 kv.2) (eDl k f acc) = eDl k f (xs.foldl (fun acc p => dput acc p.1 p.2) acc)
  | [], _ => rfl
  | x :: xs, acc => by
    show (eDl k f xs).foldl _ (putD (eDl k f acc) (k x.1) (f x.2)) = _
    rw [putD_eDl hk, fold_putD hk xs]; rfl
theorem t_dictP {κ ν : Type} [DecidableEq κ] {k : κ → Key} {f : ν → D} (hk : KInj k) (hc : X.calm = true) (xs : List (κ × ν)) {Q : Res → Prop} (q : Q (.fr (eD k f (dmk xs)))) : CallW1 X (.type "dict") (.lst (xs.map (eP (fun x => kD (k x)) f))) Q := by
  have e : (xs.map (eP (fun x => kD (k x)) f)) = (eDl k f xs).map fun kv => .tup [kD kv.1, kv.2] := by
    unfold eDl; rw [List.map_map]; rfl
  rw [e]
  refine c_dictP hc ?_
  have e2 := fold_putD (f := f) hk xs []
  rw [show eDl k f [] = [] from rfl] at e2
  rw [e2, eD_dicD]
  exact q
end
open Out (Rt)
abbrev Tin (G : GD) (H : Hp) (x dx : Addr) : Hp := fun a => if a = x ∨ a = dx then none else Tof G H a
theorem Bas.tin {K : PySem.W.Frag} {F F' H H' : Hp} {G G' : GD} {x dx : Addr} (B : Bas K F (Tof G H) F' G' H') : Bas K F (Tin G H x dx) F' G' H' := by
  refine ⟨B.ff, fun a o h => ?_, B.fh, B.gh, B.fg, fun a o h => ?_, fun a o h => ?_⟩
  · rcases B.ft a o h with z | z
    · exact .inl z
    · right; show (if _ then _ else _) = _; split
      · rfl
      · exact z
  · show (if _ then _ else _) = _
    split
    · rfl
    · exact B.gt a o h
  · have h' : (if a = x ∨ a = dx then none else Tof G H a) = some o := h
    split at h'
    · cases h'
    · exact B.tk a o h'
theorem init_frame {K : PySem.W.Frag} {F H F' H' H2 : Hp} {G G' : GD} {x dx C : Addr} {vs : List (Option V)} (B : Bas K F (Tof G H) F' G' H') (fx : F x = none) (fd : F dx = none) (gx : G x = none) (gd : G dx = none) (hx : H x = some (.ins C dx [])) (hd : H dx = some (.own x)) (hne : dx ≠ x) (e2 : H2 = SlX.slH H' x C dx vs) :
    ∃ F2, Ex F' F2 ∧ Bas K F (Tin G H x dx) F2 G' H2 ∧ SlX.Slt F2 x C dx vs := by
  have tx : Tof G H x = some (.ins C dx []) := by rw [Tof_none gx]; exact hx
  have td : Tof G H dx = some (.own x) := by rw [Tof_none gd]; exact hd
  have fx' : F' x = none := by
    cases e : F' x with
    | none => rfl
    | some u =>
      rcases B.ft x u e with z | z
      · rw [fx] at z; cases z
      · rw [tx] at z; cases z
  have fd' : F' dx = none := by
    cases e : F' dx with
    | none => rfl
    | some u =>
      rcases B.ft dx u e with z | z
      · rw [fd] at z; cases z
      · rw [td] at z; cases z
  have gx' : G' x = none := by
    cases e : G' x with
    | none => rfl
    | some u => have := B.gt x u e; rw [tx] at this; cases this
  have gd' : G' dx = none := by
    cases e : G' dx with
    | none => rfl
    | some u => have := B.gt dx u e; rw [td] at this; cases this
  have h2 : ∀ a, a ≠ x → a ≠ dx → H2 a = H' a := fun a h1 h2 => by rw [e2]; exact SlX.slH_ne h1 h2
  have ef : Ex F' (SlX.slH F' x C dx vs) := fun a o h => by rw [SlX.slH_ne (ne_of_none h fx') (ne_of_none h fd')]; exact h
  have ng : ∀ {a : Addr} {o : D}, G' a = some o → a ≠ x ∧ a ≠ dx := fun {a o} h => ⟨fun z => (by rw [z, gx'] at h; cases h), fun z => (by rw [z, gd'] at h; cases h)⟩
  refine ⟨SlX.slH F' x C dx vs, ef, ⟨fun a o h => ef a o (B.ff a o h), fun a o h => ?_, fun a o h => ?_, fun a o h => ?_, fun a o h => ?_, fun a o h => ?_, fun a o h => ?_⟩, SlX.slH_slt hne⟩
  · by_cases h1 : a = x
    · right; show (if _ then _ else _) = _; rw [if_pos (.inl h1)]
    · by_cases h2 : a = dx
      · right; show (if _ then _ else _) = _; rw [if_pos (.inr h2)]
      · rw [SlX.slH_ne h1 h2] at h
        rcases B.ft a o h with z | z
        · exact .inl z
        · right; show (if _ then _ else _) = _; rw [if_neg (by simp [h1, h2])]; exact z
  · by_cases h1 : a = x
    · subst h1; rw [e2]; unfold SlX.slH at h ⊢; rw [upd_same] at h ⊢; exact h
    · by_cases h3 : a = dx
      · subst h3; rw [e2]; unfold SlX.slH at h ⊢; rw [upd_ne h1, upd_same] at h ⊢; exact h
      · rw [SlX.slH_ne h1 h3] at h; rw [h2 a h1 h3]; exact B.fh a o h
  · obtain ⟨n1, n2⟩ := ng h
    exact (B.gh a o h).mono ef fun o q => by rw [h2 a n1 n2]; exact q
  · obtain ⟨n1, n2⟩ := ng h
    rw [SlX.slH_ne n1 n2]; exact B.fg a o h
  · show (if _ then _ else _) = _
    split
    · rfl
    · exact B.gt a o h
  · have h' : (if a = x ∨ a = dx then none else Tof G H a) = some o := h
    by_cases h1 : a = x ∨ a = dx
    · rw [if_pos h1] at h'; cases h'
    · rw [if_neg h1] at h'
      rw [h2 a (fun z => h1 (.inl z)) (fun z => h1 (.inr z))]; exact B.tk a o h'
section
variable {P : Program} {w : World} {K : PySem.W.Frag} {mg : Str → Option Value} {base : Heap}
/-- .. two slots, stored from names at the end: the second slot first -/
theorem init2r_ok {x qual : Str} {st : Stmt} {g : Addr} {fd : FuncData} {N ps : List Str} {k : Nat} {C q0 q1 : Addr} {f0 f1 : Str} {f : FSpI} (Fo : Fun K x qual st g fd) (S : FnScope N ps (defScope st)) (c : SlX.SCls K C) (t0 : SlX.Slot1 K C f0 q0 1) (t1 : SlX.Slot1 K C f1 q1 0)
    (len : ∀ ds G post px, f ds G post px → ds.length + 1 = ps.length)
    (pre : List Stmt) (s0 s1 : Stmt) (i0 i1 : Nat) (hb : defBody st = pre ++ [s0, s1])
    (hbody : ∀ (cdv : Value) (A : Around) (outer : List Env) (s : Shared) (H : Hp) (E : XK) (F T : Hp), Room k (A.deeper (envOfC qual (defScope st) s.heap.objs.size g cdv)) → ∀ (px : Exn → GD → Prop),
      PS (cyOf P w K mg base N qual (defScope st) g cdv A outer s H E F T px).toCx s0 (SlX.sSl K (tVar 0) (tVar i0) f0) ∧ PS (cyOf P w K mg base N qual (defScope st) g cdv A outer s H E F T px).toCx s1 (SlX.sSl K (tVar 0) (tVar i1) f1) ∧
      ∀ (a : Addr) (ds : List D) (G : GD) (post : List D → GD → Prop), f ds G post px → (cyOf P w K mg base N qual (defScope st) g cdv A outer s H E F T px).Tk → PassesOwn (model P w) (cyOf P w K mg base N qual (defScope st) g cdv A outer s H E F T px).A (cyOf P w K mg base N qual (defScope st) g cdv A outer s H E F T px).env (cyOf P w K mg base N qual (defScope st) g cdv A outer s H E F T px).xe →
      WB (cyOf P w K mg base N qual (defScope st) g cdv A outer s H E F T px) pre (startD N (.adr a :: ds)) G { nx := fun r G' => r[0]? = some (Sl.sh (.adr a)) ∧ ∃ d0 d1, r[i0]? = some (Sl.sh d0) ∧ r[i1]? = some (Sl.sh d1) ∧ post [d1, d0] G', rt := fun _ _ => False }) :
    FnOk P w K mg base (L2.CX P w) (k + 1) g fd ps (spI K C f) := by
  refine Fo.okX S (fun vs H Q E h => ?_) (fun cdv A outer s H vs Q E hr h => ?_)
  · obtain ⟨a, dx, us, F, G, ds, post, px, rfl, _, _, _, _, _, _, _, _, _, _, rp, hf, _⟩ := h
    rw [List.length_cons, rp.length]; exact len ds G post px hf
  · obtain ⟨a, dx, us, F, G, ds, post, px, rfl, hx, hd, hne, fx, fdx, gx, gdx, e1, e2, e3, rp, hf, hq, hxn⟩ := h
    refine ⟨RunB _ (defBody st), pbR, ?_⟩
    obtain ⟨p0, p1, hW⟩ := hbody cdv A outer s H E F (Tof G H) hr px
    have hl : (D.adr a :: ds).length ≤ N.length := by
      rw [List.length_cons, len ds G post px hf]
      have := congrArg List.length S.pre
      rw [List.length_take] at this
      omega
    rw [hb]
    have S0 := sta_start (N := N) (ds := .adr a :: ds) (vs := .ref a :: us) hl e1 e2 e3 ⟨_, _, rfl, rfl, rp⟩
    have tk : (cyOf P w K mg base N qual (defScope st) g cdv A outer s H E F (Tof G H) px).Tk := (takes_of (E := E) rfl rfl rfl rfl).imp fun cls d σ H' ⟨r, G', F', x, S', ex, q⟩ => hxn x cls d G' H' F' q S'.bas.tin ex
    have go := hW a ds G post hf tk (passes_of rfl) F (Tof G H) F H (L2.start N (.ref a :: us)) ⟨Ex.refl _, Ex.refl _, fun _ _ z => .inl z⟩ S0
    refine runB_then (X := cyOf P w K mg base N qual (defScope st) g cdv A outer s H E F (Tof G H) px) (go.mono (fun σ' H' ⟨r', G', F', S', h0, d0, d1, h1, h2, hy⟩ => ?_) (fun v H' ⟨x, G', F', B, rt, q⟩ => q.elim) (fun _ _ ⟨_, _, _, _, q⟩ => q) (fun _ _ ⟨_, _, _, _, q⟩ => q))
    obtain ⟨va, a1, a2⟩ := S'.sl 0 _ h0
    obtain ⟨v0, b1, b2⟩ := S'.sl i0 _ h1
    obtain ⟨v1, c1, c2⟩ := S'.sl i1 _ h2
    cases (show va = .ref a from a2)
    have tx : H' a = some (.ins C dx []) := S'.bas.tk a _ (by rw [Tof_none gx]; exact hx)
    have hs0 : SlX.Slt H' a C dx [] := .inl ⟨tx, rfl⟩
    have two : SlX.putS 0 v1 (SlX.putS 1 v0 []) = [some v1, some v0] := rfl
    refine RunB.of (pss_cons p0 (pss_cons p1 pss_nil)) ⟨v0, b1, .ref a, a1, a, C, dx, q0, [], 1, rfl, hs0, c, t0, v1, c1, .ref a, a1, a, C, dx, q1, _, 0, rfl, SlX.slH_slt hne, c, t1, ?_⟩
    rw [SlX.slH_twice hne, two]
    obtain ⟨F2, f1, f2, f3⟩ := init_frame (vs := [some v1, some v0]) S'.bas fx fdx gx gdx hx hd hne rfl
    exact hq _ G' _ F2 hy f2 ⟨a, dx, [v1, v0], rfl, f3, v1, [v0], rfl, Rep.mono f1 _ _ c2, .one (Rep.mono f1 _ _ b2)⟩
/-- .. one slot, stored at the end -/
theorem init1_ok {x qual : Str} {st : Stmt} {g : Addr} {fd : FuncData} {N ps : List Str} {k : Nat} {C q0 : Addr} {f0 : Str} {f : FSpI} (Fo : Fun K x qual st g fd) (S : FnScope N ps (defScope st)) (c : SlX.SCls K C) (t0 : SlX.Slot1 K C f0 q0 0)
    (len : ∀ ds G post px, f ds G post px → ds.length + 1 = ps.length)
    (pre : List Stmt) (s0 : Stmt) (e0 : Expr) (hb : defBody st = pre ++ [s0])
    (hbody : ∀ (cdv : Value) (A : Around) (outer : List Env) (s : Shared) (H : Hp) (E : XK) (F T : Hp), Room k (A.deeper (envOfC qual (defScope st) s.heap.objs.size g cdv)) → ∀ (px : Exn → GD → Prop),
      PS (cyOf P w K mg base N qual (defScope st) g cdv A outer s H E F T px).toCx s0 (SlX.sSl K (tVar 0) (Run (cyOf P w K mg base N qual (defScope st) g cdv A outer s H E F T px).toCx e0) f0) ∧
      ∀ (a : Addr) (ds : List D) (G : GD) (post : List D → GD → Prop), f ds G post px → (cyOf P w K mg base N qual (defScope st) g cdv A outer s H E F T px).Tk → PassesOwn (model P w) (cyOf P w K mg base N qual (defScope st) g cdv A outer s H E F T px).A (cyOf P w K mg base N qual (defScope st) g cdv A outer s H E F T px).env (cyOf P w K mg base N qual (defScope st) g cdv A outer s H E F T px).xe →
      WB (cyOf P w K mg base N qual (defScope st) g cdv A outer s H E F T px) pre (startD N (.adr a :: ds)) G { nx := fun r G' => WE (cyOf P w K mg base N qual (defScope st) g cdv A outer s H E F T px) e0 r G' fun y r1 G1 => ∃ d r2, fz r1 y = some (d, r2) ∧ r2[0]? = some (Sl.sh (.adr a)) ∧ post [d] G1, rt := fun _ _ => False }) :
    FnOk P w K mg base (L2.CX P w) (k + 1) g fd ps (spI K C f) := by
  refine Fo.okX S (fun vs H Q E h => ?_) (fun cdv A outer s H vs Q E hr h => ?_)
  · obtain ⟨a, dx, us, F, G, ds, post, px, rfl, _, _, _, _, _, _, _, _, _, _, rp, hf, _⟩ := h
    rw [List.length_cons, rp.length]; exact len ds G post px hf
  · obtain ⟨a, dx, us, F, G, ds, post, px, rfl, hx, hd, hne, fx, fdx, gx, gdx, e1, e2, e3, rp, hf, hq, hxn⟩ := h
    refine ⟨RunB _ (defBody st), pbR, ?_⟩
    obtain ⟨p0, hW⟩ := hbody cdv A outer s H E F (Tof G H) hr px
    have hl : (D.adr a :: ds).length ≤ N.length := by
      rw [List.length_cons, len ds G post px hf]
      have := congrArg List.length S.pre
      rw [List.length_take] at this
      omega
    rw [hb]
    have S0 := sta_start (N := N) (ds := .adr a :: ds) (vs := .ref a :: us) hl e1 e2 e3 ⟨_, _, rfl, rfl, rp⟩
    have tk : (cyOf P w K mg base N qual (defScope st) g cdv A outer s H E F (Tof G H) px).Tk := (takes_of (E := E) rfl rfl rfl rfl).imp fun cls d σ H' ⟨r, G', F', x, S', ex, q⟩ => hxn x cls d G' H' F' q S'.bas.tin ex
    have lk : Lk (cyOf P w K mg base N qual (defScope st) g cdv A outer s H E F (Tof G H) px) F (Tof G H) := ⟨Ex.refl _, Ex.refl _, fun _ _ z => .inl z⟩
    have go := hW a ds G post hf tk (passes_of rfl) F (Tof G H) F H (L2.start N (.ref a :: us)) lk S0
    refine runB_then (X := cyOf P w K mg base N qual (defScope st) g cdv A outer s H E F (Tof G H) px) (go.mono (fun σ' H' ⟨r', G', F', S', hw⟩ => ?_) (fun v H' ⟨x, G', F', B, rt, q⟩ => q.elim) (fun _ _ ⟨_, _, _, _, q⟩ => q) (fun _ _ ⟨_, _, _, _, q⟩ => q))
    refine RunB.of (pss_cons p0 pss_nil) ((hw F (Tof G H) F' H' σ' lk S').mono fun v0 H1 ⟨y, r1, G1, F1, e4, S1, k1, d, r2, q1, q2, q3⟩ => ?_)
    obtain ⟨F3, e5, S3, rp3⟩ := S1.fz k1 q1
    obtain ⟨va, a1, a2⟩ := S3.sl 0 _ q2
    cases (show va = .ref a from a2)
    have tx : H1 a = some (.ins C dx []) := S3.bas.tk a _ (by rw [Tof_none gx]; exact hx)
    have hs0 : SlX.Slt H1 a C dx [] := .inl ⟨tx, rfl⟩
    have one : SlX.putS 0 v0 [] = [some v0] := rfl
    refine ⟨.ref a, a1, a, C, dx, q0, [], 0, rfl, hs0, c, t0, ?_⟩
    rw [one]
    obtain ⟨F2, f1, f2, f3⟩ := init_frame (vs := [some v0]) S3.bas fx fdx gx gdx hx hd hne rfl
    exact hq _ G1 _ F2 q3 f2 ⟨a, dx, [v0], rfl, f3, .one (Rep.mono f1 _ _ rp3)⟩
end
/-- the promise of a class's making by a mirror -/
def FMI (cx : Nat → Addr) {A R : Type} (en : A → List D) (es : R → List D) (f : A → Out R) : FSpI := fun ds G post px => ∃ a : A, ds = en a ∧ (f a).sat (fun v => post (es v) G) (fun m => px (xnOf cx m) G)
theorem kit_same {K : PySem.W.Frag} {t : Value} (h : (t == t) = true) : PySem.W.kitOne K t t = some true := if_pos h
open Out (Rt)
structure ItemD (P : Program) (w : World) (K : PySem.W.Frag) (mg : Str → Option Value) (base : Heap) (C : Addr) (k : Nat) (ps : List Str) (sp : FSp) : Prop where
  ex : ∃ (g : Addr) (fd : FuncData), PySem.W.findIn K (.ref C) "__getitem__" = some (some (.ref g)) ∧ PySem.W.isFn K (.ref g) = true ∧ PySem.W.fnIn K g = true ∧ FnOk P w K mg base (CX P w) k g fd ps (spD K sp) ∧ Binds K fd ps []
def NoSlP (b : Expr) : Prop := ∀ o i, subscripted b true o i = runValue (.builtin "lifetime.subscript" ⟨[o, i], []⟩)
section
variable {X : Cy} {e a b c o tg kx vx elt i : Expr} {es ifs : List Expr} {st : Stmt} {sts rest body orelse : List Stmt} {r : Env2} {G : GD} {pos tpos apos cpos p0 : Pos} {D0 : EndsD} {α β γ σT ρ : Type}
def rIxOwn (C : Addr) (sp : Sp) (E : XK) : R2 := fun x y H Q => ∃ a dx vs, x = .ref a ∧ SlX.Slt H a C dx vs ∧ sp [x, y] H Q E
theorem pe_subOwn {X : Cx} {ta tb : TE} {C g : Addr} {CX : CXT} {n : Nat} {sp : Sp} {E : XK} (ha : PE X a ta) (hb : PE X b tb) (hs : PySem.W.findIn X.K (.ref C) "__getitem__" = some (some (.ref g))) (hf : PySem.W.isFn X.K (.ref g) = true) (hfn : PySem.W.fnIn X.K g = true) (F : FnR X.prog X.w X.K X.mg X.base CX n g sp) (hr : Room (n + 1) X.A) (hx : Passes CX X E) (hsl : NoSlP b) :
    PE X (.Subscript a b pos) (tOp (rIxOwn C sp E) ta tb) := by
  refine ⟨fun pins s σ H Q I h => ?_⟩
  refine Subscript_ (binT ha hb I h fun v u s2 x y H2 I2 rx ry q => ?_)
  obtain ⟨ad, dx, vs, rfl, hsl2, q⟩ := q
  cases (show v = Value.ref ad from rx)
  obtain ⟨sl, od, _, J, _⟩ := SlX.slt_inst I2 hsl2
  obtain ⟨m, hF⟩ := I2.fr
  refine PySem.W.sub_K hF I2.ok.mod.kin J hs hfn hf (wpAny_call (SlX.run_at (us := [.ref ad, u]) (ws := [.ref ad, y]) F hr.in1 I2.env0.in1 hx I2 (.cons rfl (.cons ry .nil)) q)) (hsl _ _)
theorem we_item {C : Addr} {k j : Nat} {ps : List Str} {sp : FSp} {Q : Res → Env2 → GD → Prop} (M : ItemD X.prog X.w X.K X.mg X.base C k ps sp) (hr : Room j X.A)
    (h : WE X a r G fun x r1 G1 => WE X b r1 G1 fun y r2 G2 => ∃ ds d r3, vw r2 x = some (.ins C ds) ∧ fz r2 y = some (d, r3) ∧ sp [.ins C ds, d] G2 (fun z G3 => Q z r3 G3) (fun _ _ => False)) (hj : k + 1 ≤ j := by omega) (hsl : NoSlP b := by intro _ _; rfl) : WE X (.Subscript a b pos) r G Q := fun F0 T F H σ lk S => by
  obtain ⟨g, fd, h1, h2, h3, h4, h5⟩ := M.ex
  refine Run.of (pe_subOwn (E := fun _ _ _ => False) peR peR h1 h2 h3 (fnr h4 h5) (hr.mono hj) passF hsl) ?_
  refine (h F0 T F H σ lk S).mono fun va H1 ⟨x, r1, G1, F1, e1, S1, k1, h1⟩ => ?_
  obtain ⟨F1', e1', S1', hv⟩ := hold S1 k1
  refine (h1 F0 T F1' H1 σ lk S1').mono fun vb H2 ⟨y, r2, G2, F2, e2, S2, k2, ds, d, r3, q1, q2, q3⟩ => ?_
  have vx := hv F2 G2 H2 r2 _ e2 S2 (.inl q1)
  obtain ⟨F3, e3, S3, rp⟩ := S2.fz k2 q2
  have ra := Rep.mono e3 _ _ vx.rep_ins
  obtain ⟨ad, dx, vs, rfl, z1, z2⟩ := vx.ins S2.bas.fh
  exact ⟨ad, dx, vs.map some, rfl, z1, spD_of0 (ds := [.ins C ds, d]) S3 (((e1.trans e1').trans e2).trans e3) ⟨_, _, rfl, ra, .one rp⟩ q3⟩
end
structure Rul where
  error : Int
  marks : List Int
deriving DecidableEq, Inhabited
abbrev eRul (C : Addr) : Rul → D := fun r => .ins C [.int r.error, .tup (r.marks.map D.int)]
structure Rak where
  held : List (S × Rul)
deriving DecidableEq
abbrev eRak (CK CR : Addr) : Rak → D := fun r => .ins CK [eD kZ (eRul CR) r.held]
structure Cl_Ruler (K : PySem.W.Frag) (C : Addr) : Prop where
  cls : SlX.SCls K C
  isi : SlX.SIsi K C
  s0 : ∃ p, SlX.Slot1 K C "own_error" p 0
  s1 : ∃ p, SlX.Slot1 K C "own_marks" p 1
  same : PySem.W.kitOne K (.ref C) (.ref C) = some true
  nf : PySem.W.notFirst K C (.ref C) = true
structure Cl_Rack (K : PySem.W.Frag) (C : Addr) : Prop where
  cls : SlX.SCls K C
  isi : SlX.SIsi K C
  s0 : ∃ p, SlX.Slot1 K C "held" p 0
  same : PySem.W.kitOne K (.ref C) (.ref C) = some true
  nf : PySem.W.notFirst K C (.ref C) = true
open Out (Rt)
section
variable {X : Cy} {e a b c o tg kx vx elt i : Expr} {es ifs : List Expr} {st : Stmt} {sts rest body orelse : List Stmt} {r : Env2} {G : GD} {pos tpos apos cpos p0 : Pos} {D0 : EndsD} {α β γ σT ρ : Type}
/-- sorted texts -/
def leS (a b : S) : Bool := decide (a.1.cps.toList ≤ b.1.cps.toList)
def ssort (xs : List S) : List S := xs.mergeSort leS
theorem t_lenS {x : S} (hl : x.1.length ≤ LIM) {Q : Res → Prop} (q : Q (.sh (.int (x.1.length : Nat)))) : CallW1 X (.builtin "len") (eZ x) Q :=
  c1_flat (d' := .int (x.1.length : Nat)) (v' := .int (x.1.length : Nat)) (fun _ _ => rfl) (fun F H v ex h => by
    have e : v = .str x.1 := by
      rcases h with z | ⟨_, _, z⟩
      · exact z
      · exact z.elim
    subst e
    exact ⟨_, call_len_str, fun P hp => ⟨_, rfl, lim_ok hl, hp⟩⟩) q
/-- the signs of a text -/
abbrev Chr := { c : Nat // c < 0x110000 }
abbrev eC : Chr → D := fun c => .str ⟨#[c.1]⟩
theorem eqc_chr : EqC eC 0 := ⟨fun c => by
    show PyData.strOk ⟨#[c.1]⟩ = true
    unfold PyData.strOk
    simp [c.2], fun a b => by
    show PyData.eqv (.str ⟨#[a.1]⟩) (.str ⟨#[b.1]⟩) = true ↔ a = b
    simp [PyData.eqv, Subtype.ext_iff]⟩
def chrs (x : S) : List Chr := x.1.cps.toList.attach.map fun c => ⟨c.1, by
  have h := x.2
  unfold PyData.strOk at h
  rw [Array.all_eq_true_iff_forall_mem] at h
  exact of_decide_eq_true (h c.1 (Array.mem_toList_iff.mp c.2))⟩
theorem chrs_val (x : S) : (chrs x).map (·.1) = x.1.cps.toList := by
  unfold chrs
  rw [List.map_map]
  exact List.attach_map_subtype_val _
theorem chrs_len (x : S) : (chrs x).length = x.1.cps.size := by
  have := congrArg List.length (chrs_val x)
  rwa [List.length_map, Array.length_toList] at this
theorem ti_str {Q : List D → Env2 → GD → Prop} (h : WE X e r G fun z r1 G1 => ∃ (x : S) (r2 : Env2), fz r1 z = some (eZ x, r2) ∧ Q ((chrs x).map eC) r2 G1) : WI X tg e r G Q := fun F0 T F H σ lk S =>
  RunI.of (pi_str peR) ((h F0 T F H σ lk S).mono fun v H1 ⟨z, r1, G1, F1, e1, S1, k1, x, r2, q1, q2⟩ => by
    obtain ⟨Fa, e2, Sa, rp⟩ := S1.fz k1 q1
    cases (show v = .str x.1 from rp)
    refine ⟨x.1, rfl, _, r2, G1, Fa, e1.trans e2, Sa, fun F H ea eh => ⟨?_, fun i d hi => ?_⟩, q2⟩
    · show x.1.cps.size ≤ ((chrs x).map eC).length
      rw [List.length_map, chrs_len]; exact Nat.le_refl _
    · rw [List.getElem?_map] at hi
      cases hc : (chrs x)[i]? with
      | none => rw [hc] at hi; cases hi
      | some c =>
        rw [hc] at hi; cases hi
        have hv : x.1.cps.toList[i]? = some c.1 := by rw [← chrs_val, List.getElem?_map, hc]; rfl
        rw [Array.getElem?_toList] at hv
        refine ⟨?_, fun y H' ⟨y1, c', y2, y3⟩ => .inl ⟨y1, ?_⟩⟩
        · show i < x.1.cps.size
          obtain ⟨h1, _⟩ := Array.getElem?_eq_some_iff.mp hv
          exact h1
        · rw [hv] at y2; cases y2
          exact y3)
theorem t_ninS {c : Chr} {x : S} {Q : Res → Prop} (q : Q (.sh (.bl (!decide (c ∈ chrs x))))) : OpW X (compareOp .NotIn) (eC c) (eZ x) Q := by
  have e : decide (c ∈ chrs x) = decide (c.1 ∈ x.1.cps.toList) := by
    rw [← chrs_val]
    congr 1
    simp only [List.mem_map, eq_iff_iff]
    exact ⟨fun h => ⟨c, h, rfl⟩, fun ⟨c', h, hc⟩ => by cases Subtype.ext hc; exact h⟩
  rw [e] at q
  refine opw_flat (d := .bl (!decide (c.1 ∈ x.1.cps.toList))) (v := .bl (!decide (c.1 ∈ x.1.cps.toList))) (fun _ _ => rfl) (fun F H va vb ex h1 h3 => ?_) q
  have e1 : va = .str ⟨#[c.1]⟩ := by
    rcases h1 with z | ⟨_, _, z⟩
    · exact z
    · exact z.elim
  have e2 : vb = .str x.1 := by
    rcases h3 with z | ⟨_, _, z⟩
    · exact z
    · exact z.elim
  subst e1 e2
  exact ⟨_, op_notIn_sign, fun P p => ⟨c.1, x.1, rfl, rfl, p⟩⟩
end
namespace RBS
open PySem PyProof.Rows SrtO Srt
theorem ltL_tri (a b : List Nat) (h1 : ¬ a < b) (h2 : ¬ b < a) : a = b := List.le_antisymm (List.not_lt.mp h2) (List.not_lt.mp h1)
def lexS (p q : Str × Int) : Bool := if p.1 = q.1 then decide (p.2 < q.2) else decide (p.1.cps.toList < q.1.cps.toList)
theorem str_ext {x y : Str} (h : x.cps.toList = y.cps.toList) : x = y := by
  cases x; cases y
  congr
  exact Array.ext' h
theorem lexS_iff {p q : Str × Int} : lexS p q = true ↔ p.1.cps.toList < q.1.cps.toList ∨ (p.1 = q.1 ∧ p.2 < q.2) := by
  unfold lexS
  by_cases e : p.1 = q.1
  · rw [if_pos e, decide_eq_true_eq, e]
    exact ⟨fun h => .inr ⟨rfl, h⟩, fun h => h.elim (fun z => absurd z (List.lt_irrefl _)) fun z => z.2⟩
  · rw [if_neg e, decide_eq_true_eq]
    exact ⟨.inl, fun h => h.elim id fun z => absurd z.1 e⟩
theorem lexS_no {p q : Str × Int} : lexS p q = false ↔ q.1.cps.toList < p.1.cps.toList ∨ (p.1 = q.1 ∧ q.2 ≤ p.2) := by
  constructor
  · intro h
    have h' : ¬ (p.1.cps.toList < q.1.cps.toList ∨ (p.1 = q.1 ∧ p.2 < q.2)) := fun z => by rw [lexS_iff.mpr z] at h; cases h
    by_cases e : p.1 = q.1
    · exact .inr ⟨e, Int.not_lt.mp fun z => h' (.inr ⟨e, z⟩)⟩
    · refine .inl ?_
      by_cases z : q.1.cps.toList < p.1.cps.toList
      · exact z
      · exact absurd (str_ext (ltL_tri _ _ (fun y => h' (.inl y)) z)) e
  · intro h
    cases q' : lexS p q with
    | false => rfl
    | true =>
      rcases lexS_iff.mp q' with z | ⟨z1, z2⟩
      · rcases h with y | ⟨y1, y2⟩
        · exact absurd (List.lt_trans z y) (List.lt_irrefl _)
        · rw [y1] at z; exact absurd z (List.lt_irrefl _)
      · rcases h with y | ⟨y1, y2⟩
        · rw [z1] at y; exact absurd y (List.lt_irrefl _)
        · omega
theorem lexS_asym {p q : Str × Int} (h : lexS p q = true) : lexS q p = false := by
  rcases lexS_iff.mp h with z | ⟨z1, z2⟩
  · exact lexS_no.mpr (.inl z)
  · exact lexS_no.mpr (.inr ⟨z1.symm, by omega⟩)
theorem lexS_tr {x y z : Str × Int} (h1 : lexS y x = false) (h2 : lexS z y = false) : lexS z x = false := by
  rcases lexS_no.mp h1 with a | ⟨a1, a2⟩
  · rcases lexS_no.mp h2 with b | ⟨b1, b2⟩
    · exact lexS_no.mpr (.inl (List.lt_trans a b))
    · exact lexS_no.mpr (.inl (by rw [b1]; exact a))
  · rcases lexS_no.mp h2 with b | ⟨b1, b2⟩
    · exact lexS_no.mpr (.inl (by rw [← a1]; exact b))
    · exact lexS_no.mpr (.inr ⟨b1.trans a1, by omega⟩)
theorem lexS_anti {x y : Str × Int} (h1 : lexS y x = false) (h2 : lexS x y = false) : x = y := by
  rcases lexS_no.mp h1 with a | ⟨a1, a2⟩
  · rcases lexS_no.mp h2 with b | ⟨b1, b2⟩
    · exact absurd (List.lt_trans a b) (List.lt_irrefl _)
    · rw [b1] at a; exact absurd a (List.lt_irrefl _)
  · rcases lexS_no.mp h2 with b | ⟨b1, b2⟩
    · rw [a1] at b; exact absurd b (List.lt_irrefl _)
    · exact Prod.ext b1 (by omega)
theorem swo_lexS {α : Type} (k : α → Str × Int) : Swo fun v u => lexS (k v) (k u) := ⟨fun _ _ h => lexS_asym h, fun _ _ _ h1 h2 => lexS_tr h1 h2⟩
def IsPairS (h : Heap) (v : Value) (x : Str) (y : Int) : Prop := ∃ a o t u n, v = .ref a ∧ h.get? a = some o ∧ o.cls = .type "tuple" ∧ o.data = .seq #[.str x t, .int y u] n
theorem IsPairS.keeps {h h' : Heap} {v : Value} {x : Str} {y : Int} (p : IsPairS h v x y) (k : ∀ b o, h.get? b = some o → o.cls = .type "tuple" → h'.get? b = some o) : IsPairS h' v x y := by
  obtain ⟨a, o, t, u, n, e, ho, hc, hd⟩ := p
  exact ⟨a, o, t, u, n, e, k _ _ ho hc, hc, hd⟩
theorem firsts_of {h : Heap} : ∀ {vs : List Value}, (∀ v ∈ vs, ∃ x y, IsPairS h v x y) → ∃ fs : List Value, PySem.W.KatTups h vs fs ∧ fs.length = vs.length ∧ ∀ f ∈ fs, ∃ x t, f = Value.str x t
  | [], _ => ⟨[], PySem.W.KatTups.nil, rfl, fun _ hm => by simp at hm⟩
  | v :: vs, hp => by
    obtain ⟨fs, h1, h2, h3⟩ := firsts_of (vs := vs) fun v' hm => hp v' (List.mem_cons_of_mem _ hm)
    obtain ⟨x, y, a, o, t, u, n, e, ho, hc, hd⟩ := hp v (List.mem_cons_self ..)
    subst e
    refine ⟨.str x t :: fs, PySem.W.KatTups.cons ho hc hd rfl h1, by rw [List.length_cons, List.length_cons, h2], fun f hm => ?_⟩
    rcases List.mem_cons.mp hm with rfl | hm
    · exact ⟨x, t, rfl⟩
    · exact h3 f hm
section
variable {prog : Program} {w : World} {A : Around} {E : Value → Shared → Prop} {s : Shared}
theorem pair_cmp {vs : List Value} {k : Value → Str × Int} (hp : ∀ v ∈ vs, IsPairS s.heap v (k v).1 (k v).2) : Cmp prog w A s (tuples' true) (fun p => p.1 ∈ vs) (lt2 fun v u => lexS (k v) (k u)) := by
  intro p q hm hm'
  have h1 := hp _ hm
  have h2 := hp _ hm'
  show wpAny (model prog w) A (keyLt' (tuples' true) p.1 q.1) (fun r s' => s' = s ∧ r = lexS (k p.1) (k q.1)) (fun _ _ => False) s
  unfold lexS
  generalize (k p.1).1 = x at h1 ⊢
  generalize (k p.1).2 = y at h1 ⊢
  generalize (k q.1).1 = x' at h2 ⊢
  generalize (k q.1).2 = y' at h2 ⊢
  obtain ⟨a, o, t, u, n, e, ho, hc, hd⟩ := h1
  obtain ⟨a', o', t', u', n', e', ho', hc', hd'⟩ := h2
  rw [e, e']
  refine PySem.W.kat_lt ho hd ho' hd' ?_
  show PySem.W.KatLex prog w A true (decide (2 < 2)) _ [(.str x t, .str x' t'), (.int y u, .int y' u')] 0 s
  refine PySem.W.kat_cons (SeqAt.EqAt.str_str x t x' t' prog w _ _ ?_)
  refine PySem.W.kat_go (fun e1 => ?_) (fun e1 => ?_)
  · have ex : x = x' := by simpa using e1
    refine PySem.W.kat_yes (PySem.W.kat_cons (SeqAt.EqAt.int_int y u y' u' prog w _ _ ?_))
    refine PySem.W.kat_go (fun e2 => ?_) (fun e2 => ?_)
    · have ey : y = y' := by simpa using e2
      have e3 : (if x = x' then decide (y < y') else decide (x.cps.toList < x'.cps.toList)) = false := by
        rw [if_pos ex, ey]
        exact decide_eq_false (Int.lt_irrefl _)
      exact PySem.W.kat_yes (PySem.W.kat_nil ⟨rfl, e3.symm⟩)
    · have e3 : (if x = x' then decide (y < y') else decide (x.cps.toList < x'.cps.toList)) = decide (y < y') := if_pos ex
      refine PySem.W.kat_no (PySem.W.kat_one _ _ (PyProof.Rows.lt_int ?_))
      exact (show s = s ∧ decide (y < y') = (if x = x' then decide (y < y') else decide (x.cps.toList < x'.cps.toList)) from ⟨rfl, e3.symm⟩)
  · have ex : ¬ x = x' := by simpa using e1
    have e3 : (if x = x' then decide (y < y') else decide (x.cps.toList < x'.cps.toList)) = decide (x.cps.toList < x'.cps.toList) := if_neg ex
    exact PySem.W.kat_no (oneLt_str ⟨rfl, e3.symm⟩)
theorem pairs_sortableS {a : Addr} {vs : List Value} {k : Value → Str × Int} (h0 : 0 < vs.length) (hp : ∀ v ∈ vs, IsPairS s.heap v (k v).1 (k v).2) (ha : ∀ o, s.heap.get? a = some o → o.cls ≠ .type "tuple") : SortableO prog w A s a vs fun v u => lexS (k v) (k u) := by
  intro h' keep
  have hp' : ∀ v ∈ vs, IsPairS h' v (k v).1 (k v).2 := fun v hm => (hp v hm).keeps fun b o e c => keep b o (fun z => by subst z; exact ha o e c) e
  obtain ⟨fs, h1, h2, h3⟩ := firsts_of fun v hm => ⟨_, _, hp' v hm⟩
  refine ⟨tuples' true, fun Q E hq => ?_, pair_cmp hp'⟩
  refine PySem.W.kat_kind (T := .type "str") h1 (by omega) (fun f hm => ?_) (by rfl) ?_
  · obtain ⟨x, t, rfl⟩ := h3 f hm
    exact PySem.W.Looks.now
  · have e : (Value.type "str" != Value.type "tuple") = true := by first | decide +kernel | rfl | decide
    rw [e]
    exact hq
theorem sorted_pairsS {l : Addr} {vs : List Value} {k : Value → Str × Int} {Q : Value → Shared → Prop} (hl : s.heap.IsList l vs.toArray) (hz : vs.length ≤ sizeLine) (hp : ∀ v ∈ vs, IsPairS s.heap v (k v).1 (k v).2)
    (h : ∀ (h' : Heap) (d : Addr) (out : List Value), Srtd (fun v u => lexS (k v) (k u)) out → Stb (fun v u => lexS (k v) (k u)) out vs → (∀ b o, s.heap.get? b = some o → h'.get? b = some o) → s.heap.objs.size ≤ d → (∃ n, h'.get? d = some (seqObj "list" out.toArray n)) → Q (.ref d) { s with heap := h' }) :
    wpAny (model prog w) A (call (.builtin "sorted") [.ref l]) Q E s := by
  refine sorted_ord (swo_lexS k) hl hz (fun h2 h₁ a ha kk => ?_) fun out hs hb => ?_
  · refine pairs_sortableS (s := { s with heap := h₁ }) (by omega) (fun v hm => (hp v hm).keeps fun b o e _ => (kk b o e).2) fun o e => ?_
    have e' : some o = some (seqObj "list" vs.toArray 0) := e.symm.trans ha
    cases e'
    intro c
    exact absurd (Value.type.inj c) (by decide)
  · exact h _ _ out hs hb (fun b o e => sortedAll_old e) (Nat.le_succ _) (sortedAll_at s.heap vs out.toArray)
end
end RBS
open Out (Rt)
theorem paired_mem {α β : Type} {R : α → β → Prop} : ∀ {xs : List α} {ys : List β}, Paired R xs ys → ∀ x ∈ xs, ∃ y ∈ ys, R x y
  | _, _, .nil, x, hx => by simp at hx
  | _, _, .cons h t, x, hx => by
    rcases List.mem_cons.mp hx with z | z
    · subst z; exact ⟨_, List.mem_cons_self, h⟩
    · obtain ⟨y, hy, q⟩ := paired_mem t x z
      exact ⟨y, List.mem_cons_of_mem _ hy, q⟩
theorem paired_map {α β γ : Type} {R : α → β → Prop} {f : γ → α} {k : γ → β} : ∀ {us : List γ}, (∀ u ∈ us, R (f u) (k u)) → Paired R (us.map f) (us.map k)
  | [], _ => .nil
  | u :: us, h => .cons (h u List.mem_cons_self) (paired_map fun v hv => h v (List.mem_cons_of_mem _ hv))
/-- sorted(xs), xs a list of pairs (text, int) of any length -/
def rSortedPS (K : PySem.W.Frag) : List V → Hp → VK → Prop := fun vs H Q => ∃ (a : Addr) (xs : List V) (zs : List (Str × Int)) (P : V → Str × Int → Prop), vs = [V.ref a] ∧ SqL K H a xs ∧ Paired P xs zs ∧ (∀ x z, P x z → ∃ t, x = V.ref t ∧ SqT K H t [.str z.1, .int z.2]) ∧
  ∀ ys zs' p, Paired P ys zs' → zs'.Perm zs → zs'.Pairwise (fun a b => RBS.lexS b a = false) → H p = none → Q (.ref p) (upd H p (.lst ys))
theorem pairS_inj {h : Heap} {v : Value} {x x' : Str} {y y' : Int} (h1 : RBS.IsPairS h v x y) (h2 : RBS.IsPairS h v x' y') : (x, y) = (x', y') := by
  obtain ⟨a, o, t, u, n, e, ho, hc, hd⟩ := h1
  obtain ⟨a', o', t', u', n', e', ho', hc', hd'⟩ := h2
  subst e; cases e'
  rw [ho] at ho'; cases ho'
  rw [hd] at hd'
  cases hd'; rfl
open Classical in
theorem cr_sortedPS {X : Cx} : CallR X (.builtin "sorted") (rSortedPS X.K) := by
  intro pins s σ H vs us Q I r h
  obtain ⟨a, xs, zs, P, rfl, hs, hP, hx, q⟩ := h
  obtain ⟨its, rv, hl, hz⟩ := I.list hs
  obtain ⟨u, rfl, ru⟩ := vals1 r
  obtain rfl : u = Value.ref a := ru
  have hp1 : ∀ x z, P x z → ∀ v, RelV x v → RBS.IsPairS s.heap v z.1 z.2 := fun x z hxz v rx => by
    obtain ⟨t, rfl, ht⟩ := hx x z hxz
    cases (show v = Value.ref t from rx)
    obtain ⟨its2, r2, ⟨o, ho, hc, n, hd⟩, _⟩ := I.tuple ht
    obtain ⟨u1, u2, rfl, ri, rj⟩ := vals2 r2
    obtain ⟨t1, rfl⟩ := ri
    obtain ⟨t2, rfl⟩ := rj
    exact ⟨t, o, t1, t2, n, rfl, ho, hc, hd⟩
  obtain ⟨e1, e2⟩ := refs_back rv fun x m => by
    obtain ⟨z, _, hz⟩ := paired_mem hP x m
    obtain ⟨t, e, _⟩ := hx x z hz
    exact ⟨t, e⟩
  let k : Value → Str × Int := fun u => if hh : ∃ z : Str × Int, RBS.IsPairS s.heap u z.1 z.2 then hh.choose else (⟨#[]⟩, 0)
  have hk : ∀ u z, RBS.IsPairS s.heap u z.1 z.2 → k u = z := fun u z hu => by
    have hh : ∃ z : Str × Int, RBS.IsPairS s.heap u z.1 z.2 := ⟨z, hu⟩
    show (if hh : ∃ z : Str × Int, RBS.IsPairS s.heap u z.1 z.2 then hh.choose else (⟨#[]⟩, 0)) = z
    rw [dif_pos hh]
    exact pairS_inj hh.choose_spec hu
  have rel : ∀ u ∈ its, RelV (backV u) u := fun u hu => by
    obtain ⟨t, rfl⟩ := e2 u hu
    exact rfl
  have hzs : ∀ (us : List Value) (zs : List (Str × Int)), (∀ u ∈ us, RelV (backV u) u) → Paired P (us.map backV) zs → zs = us.map k ∧ ∀ u ∈ us, P (backV u) (k u) := by
    intro us
    induction us with
    | nil => intro zs _ h; cases h; exact ⟨rfl, fun _ hu => by simp at hu⟩
    | cons u us ih =>
      intro zs hr h
      cases h with
      | cons h1 h2 =>
        obtain ⟨g1, g2⟩ := ih _ (fun v hv => hr v (List.mem_cons_of_mem _ hv)) h2
        have ek := hk u _ (hp1 _ _ h1 u (hr u List.mem_cons_self))
        subst g1
        rw [List.map_cons, ek]
        refine ⟨rfl, fun v hv => ?_⟩
        rcases List.mem_cons.mp hv with z | z
        · subst z; rw [ek]; exact h1
        · exact g2 v z
  rw [e1] at hP
  obtain ⟨g1, g2⟩ := hzs its zs rel hP
  refine RBS.sorted_pairsS (k := k) hl.isList (by rw [← rv.length]; exact hz) (fun v hv => hp1 _ _ (g2 v hv) v (rel v hv)) fun h' d out h1 h2 kp hd hn => ?_
  have hm : ∀ u ∈ out, u ∈ its := fun u hu => h2.perm.mem_iff.mp hu
  obtain ⟨n, hn⟩ := hn
  refine ⟨.ref d, upd H d (.lst (out.map backV)), I.laid (t' := s.toks) kp hd ⟨?_, out, n, vals_back fun u hu => e2 u (hm u hu), hn⟩, rfl, q _ (out.map k) d (paired_map fun u hu => g2 u (hm u hu)) ?_ ?_ (I.hok.fresh hd)⟩
  · rw [List.length_map, h2.perm.length_eq, ← rv.length]
    exact hz
  · rw [g1]; exact h2.perm.map k
  · exact List.pairwise_map.mpr h1
/-- the pairs of a mirror, sorted -/
def gP (a : S × Int) : Str × Int := (a.1.1, a.2)
def leP (a b : S × Int) : Bool := !RBS.lexS (gP b) (gP a)
def psort (xs : List (S × Int)) : List (S × Int) := xs.mergeSort leP
theorem leP_trans (a b c : S × Int) (h1 : leP a b = true) (h2 : leP b c = true) : leP a c = true := by
  unfold leP at *
  rw [Bool.not_eq_true'] at *
  exact RBS.lexS_tr h1 h2
theorem leP_total (a b : S × Int) : (leP a b || leP b a) = true := by
  unfold leP
  cases h : RBS.lexS (gP b) (gP a) with
  | false => rfl
  | true => rw [RBS.lexS_asym h]; rfl
theorem psort_perm (xs : List (S × Int)) : (psort xs).Perm xs := List.mergeSort_perm _ _
theorem psort_sorted (xs : List (S × Int)) : (psort xs).Pairwise fun a b => leP a b = true := List.pairwise_mergeSort leP_trans leP_total xs
theorem gP_inj {a b : S × Int} (e : gP a = gP b) : a = b := by
  obtain ⟨a1, a2⟩ := a
  obtain ⟨b1, b2⟩ := b
  have e1 : a1.1 = b1.1 := congrArg Prod.fst e
  have e2 : a2 = b2 := congrArg Prod.snd e
  rw [Subtype.ext e1, e2]
theorem leP_anti (a b : S × Int) (h1 : leP a b = true) (h2 : leP b a = true) : a = b := by
  unfold leP at *
  rw [Bool.not_eq_true'] at *
  exact gP_inj (RBS.lexS_anti h1 h2)
theorem psort_of {xs ys : List (S × Int)} (p : xs.Perm ys) (h : xs.Pairwise fun a b => leP a b = true) : xs = psort ys :=
  List.Perm.eq_of_pairwise (le := fun a b => leP a b = true) (fun a b _ _ h h' => leP_anti a b h h') h (psort_sorted ys) (p.trans (psort_perm ys).symm)
theorem repl_pair {K : PySem.W.Frag} {F : Hp} : ∀ {xs : List (S × Int)} {vs : List V}, RepL K F (xs.map (eP eZ eI)) vs → Paired (fun x z => ∃ s : S × Int, gP s = z ∧ Rep K F (eP eZ eI s) x) vs (xs.map gP)
  | [], _, h => by rw [show _ = [] from h]; exact .nil
  | x :: xs, _, ⟨v0, vs', e, h1, h2⟩ => by
    subst e
    exact .cons ⟨x, rfl, h1⟩ (repl_pair h2)
theorem pair_repl {K : PySem.W.Frag} {F : Hp} : ∀ {xs : List (S × Int)} {vs : List V}, Paired (fun x z => ∃ s : S × Int, gP s = z ∧ Rep K F (eP eZ eI s) x) vs (xs.map gP) → RepL K F (xs.map (eP eZ eI)) vs
  | [], _, .nil => rfl
  | x :: xs, _, .cons ⟨s, h1, h2⟩ t => by
    cases gP_inj h1
    exact ⟨_, _, rfl, h2, pair_repl t⟩
section
variable {X : Cy}
theorem t_sortedP (xs : List (S × Int)) {Q : Res → Prop} (q : Q (.fr (.lst ((psort xs).map (eP eZ eI))))) : CallW1 X (.builtin "sorted") (.lst (xs.map (eP eZ eI))) Q := fun F0 T F G H r σ v S hv => by
  obtain ⟨p, vs, rfl, h1, h2⟩ := hv.lst S.bas.fh
  refine ⟨_, cr_sortedPS, p, vs, xs.map gP, _, rfl, .inl h1, repl_pair h2, fun x z ⟨s, e, rp⟩ => ?_, fun ys zs' l hy hp hs hl => ?_⟩
  · obtain ⟨t, ws, rfl, k1, w1, ws1, e1, k2, w2, ws2, e2, k3, k4⟩ := rp
    subst e1 e2
    cases (show w1 = .str s.1.1 from k2)
    cases (show w2 = .int s.2 from k3)
    cases (show ws2 = [] from k4)
    subst e
    exact ⟨t, rfl, S.bas.fh.sqT k1⟩
  · have e : zs' = (psort xs).map gP := by
      refine List.Perm.eq_of_pairwise (le := fun a b => RBS.lexS b a = false) (fun a b _ _ h h' => RBS.lexS_anti h h') hs ?_ (hp.trans ((psort_perm xs).map gP).symm)
      exact List.pairwise_map.mpr ((psort_sorted xs).imp fun {a b} h => by
        unfold leP at h
        rw [Bool.not_eq_true'] at h
        exact h)
    subst e
    exact new_lst S (pair_repl hy) hl q
end
open Out (Rt)
section
variable {X : Cy} {e a b c o tg kx vx elt i : Expr} {es ifs : List Expr} {st : Stmt} {sts rest body orelse : List Stmt} {r : Env2} {G : GD} {pos tpos apos cpos p0 : Pos} {D0 : EndsD} {α β γ σT ρ : Type}
def rDEq0 : R2 := fun x y H Q => ∃ a b ks, x = .ref a ∧ y = .ref b ∧ Rd H a (.dK ks) ∧ Rd H b (.dK []) ∧ Q (.bl ks.isEmpty) H
theorem op_deq0 {X : Cx} (hu : X.A.units < cLine) : OpR X (compareOp .Eq) rDEq0 := by
  intro pins s σ H x y v u Q I rx ry h
  obtain ⟨a, b, ks, rfl, rfl, ea, eb, q⟩ := h
  obtain rfl : v = Value.ref a := rx
  obtain rfl : u = Value.ref b := ry
  obtain ⟨za, ya, va, ra, da⟩ := dk_rd I.hok ea
  obtain ⟨zb, yb, vb, rb, db⟩ := dk_rd I.hok eb
  have hb : vb = [] := by have := rb.length; cases vb with | nil => rfl | cons => simp at this
  subst hb
  have hl := ra.length
  refine PySem.W.keq_eq (knd := mixKind X.prog X.w) (r := true) ya yb da db hu (fun e => ?_) (fin_bl I q ?_)
  · have : va = [] := List.length_eq_zero_iff.mp e
    subst this
    exact .nil
  · cases ks with
    | nil => have : va = [] := List.length_eq_zero_iff.mp hl.symm; subst this; rfl
    | cons p ks => cases va with
      | nil => simp at hl
      | cons => rfl
theorem t_deq0 {κ ν : Type} {k : κ → Key} {f : ν → D} (hu : X.A.units + 64 < cLine) (kvs : List (κ × ν)) {Q : Res → Prop} (q : Q (.sh (.bl kvs.isEmpty))) : OpW X (compareOp .Eq) (eD k f kvs) (.dic [] []) Q := by
  refine opw_flat (d := .bl kvs.isEmpty) (v := .bl kvs.isEmpty) (fun _ _ => rfl) (fun F H va vb ex h1 h3 => ?_) q
  obtain ⟨p, us, rfl, k1, k2⟩ := h1.dics ex
  obtain ⟨p2, us2, rfl, k3, k4⟩ := h3.dics ex
  cases (show us2 = [] from k4)
  refine ⟨_, op_deq0 (by omega), fun P hp => ⟨p, p2, us, rfl, rfl, k1, k3, ?_⟩⟩
  have : us.isEmpty = kvs.isEmpty := by
    have := k2.length
    rw [zip_eDl] at this
    unfold eDl at this
    rw [List.length_map] at this
    cases us with
    | nil => cases kvs with
      | nil => rfl
      | cons => simp at this
    | cons => cases kvs with
      | nil => simp at this
      | cons => rfl
  rw [this]; exact hp
theorem rising_chain : ∀ (ys : List Str) (p : Str), risingS p ys = true → (p :: ys).Pairwise fun a b => ¬ b.cps.toList < a.cps.toList
  | [], p, _ => by simp
  | y :: ys, p, h => by
    unfold risingS at h
    rw [Bool.and_eq_true] at h
    have ih := rising_chain ys y h.2
    have h1 : ¬ y.cps.toList < p.cps.toList := by
      intro z
      have : ltCps y.cps.toList p.cps.toList = true := by
        rw [ltCps_eq]; exact decide_eq_true z
      rw [this] at h; simp at h
    refine List.pairwise_cons.mpr ⟨fun b hb => ?_, ih⟩
    rcases List.mem_cons.mp hb with e | e
    · subst e; exact h1
    · intro z
      have h2 := (List.pairwise_cons.mp ih).1 b e
      exact h2 (by
        by_cases h3 : b.cps.toList < y.cps.toList
        · exact h3
        · by_cases h4 : y.cps.toList < b.cps.toList
          · exact absurd (List.lt_trans h4 z) h1
          · rw [RBS.ltL_tri _ _ h3 h4] at z; exact absurd z h1)
theorem sortedS_chain : ∀ (ys : List Str), sortedS ys = true → ys.Pairwise fun a b => ¬ b.cps.toList < a.cps.toList
  | [], _ => List.Pairwise.nil
  | y :: ys, h => rising_chain ys y h
theorem leS_trans (a b c : S) (h1 : leS a b = true) (h2 : leS b c = true) : leS a c = true := by
  unfold leS at *
  rw [decide_eq_true_eq] at *
  exact List.le_trans h1 h2
theorem leS_total (a b : S) : (leS a b || leS b a) = true := by
  unfold leS
  rw [Bool.or_eq_true, decide_eq_true_eq, decide_eq_true_eq]
  exact List.le_total _ _
theorem ssort_perm (xs : List S) : (ssort xs).Perm xs := List.mergeSort_perm _ _
theorem ssort_sorted (xs : List S) : (ssort xs).Pairwise fun a b => leS a b = true := List.pairwise_mergeSort leS_trans leS_total xs
theorem strs_rep {K : PySem.W.Frag} {F : Hp} : ∀ (xs : List S), RepL K F (xs.map eZ) ((xs.map (·.1)).map V.str)
  | [] => rfl
  | x :: xs => ⟨_, _, rfl, rfl, strs_rep xs⟩
/-- sorted(d), the keys texts -/
theorem t_sortedDS {ν : Type} {f : ν → D} (kvs : List (S × ν)) (hcalm : X.calm = true) (h64 : kvs.length < 64) {Q : Res → Prop} (q : Q (.fr (.lst ((ssort (kvs.map (·.1))).map eZ)))) : CallW1 X (.builtin "sorted") (eD kZ f kvs) Q := fun F0 T F G H r σ v S hv => by
  obtain ⟨p, us, rfl, h1, h2⟩ := hv.dics S.bas.fh
  refine ⟨_, call_sortedD hcalm, p, us, (kvs.map (·.1)).map (·.1), rfl, h1, ?_, by rw [List.length_map, List.length_map]; exact h64, fun ys l hp hs hl => ?_⟩
  · have := h2.keys
    rw [zip_eDl] at this
    rw [this]
    unfold eDl
    rw [List.map_map, List.map_map, List.map_map]; rfl
  · have e : ys = (ssort (kvs.map (·.1))).map (·.1) := by
      refine List.Perm.eq_of_pairwise (le := fun a b : Str => ¬ b.cps.toList < a.cps.toList) (fun a b _ _ h h' => RBS.str_ext (RBS.ltL_tri _ _ h' h)) (sortedS_chain ys hs) ?_ (hp.trans ((ssort_perm _).map _).symm)
      exact List.pairwise_map.mpr ((ssort_sorted _).imp fun {a b} h => by
        unfold leS at h
        rw [decide_eq_true_eq] at h
        exact List.not_lt.mpr h)
    subst e
    exact new_lst S (strs_rep _) hl q
end
theorem kt_NoneType_str {K : PySem.W.Frag} : PySem.W.kitOne K (.type "NoneType") (.type "str") = some false := kit_ty (by decide +kernel)
theorem kt_NoneType_tuple {K : PySem.W.Frag} : PySem.W.kitOne K (.type "NoneType") (.type "tuple") = some false := kit_ty (by decide +kernel)
theorem kt_NoneType_list {K : PySem.W.Frag} : PySem.W.kitOne K (.type "NoneType") (.type "list") = some false := kit_ty (by decide +kernel)
theorem kt_NoneType_dict {K : PySem.W.Frag} : PySem.W.kitOne K (.type "NoneType") (.type "dict") = some false := kit_ty (by decide +kernel)
theorem kt_bool_bool {K : PySem.W.Frag} : PySem.W.kitOne K (.type "bool") (.type "bool") = some true := kit_ty (by decide +kernel)
theorem kt_bool_int {K : PySem.W.Frag} : PySem.W.kitOne K (.type "bool") (.type "int") = some true := kit_ty (by decide +kernel)
theorem kt_bool_str {K : PySem.W.Frag} : PySem.W.kitOne K (.type "bool") (.type "str") = some false := kit_ty (by decide +kernel)
theorem kt_bool_tuple {K : PySem.W.Frag} : PySem.W.kitOne K (.type "bool") (.type "tuple") = some false := kit_ty (by decide +kernel)
theorem kt_bool_list {K : PySem.W.Frag} : PySem.W.kitOne K (.type "bool") (.type "list") = some false := kit_ty (by decide +kernel)
theorem kt_bool_dict {K : PySem.W.Frag} : PySem.W.kitOne K (.type "bool") (.type "dict") = some false := kit_ty (by decide +kernel)
theorem kt_int_bool {K : PySem.W.Frag} : PySem.W.kitOne K (.type "int") (.type "bool") = some false := kit_ty (by decide +kernel)
theorem kt_int_int {K : PySem.W.Frag} : PySem.W.kitOne K (.type "int") (.type "int") = some true := kit_ty (by decide +kernel)
theorem kt_int_str {K : PySem.W.Frag} : PySem.W.kitOne K (.type "int") (.type "str") = some false := kit_ty (by decide +kernel)
theorem kt_int_tuple {K : PySem.W.Frag} : PySem.W.kitOne K (.type "int") (.type "tuple") = some false := kit_ty (by decide +kernel)
theorem kt_int_list {K : PySem.W.Frag} : PySem.W.kitOne K (.type "int") (.type "list") = some false := kit_ty (by decide +kernel)
theorem kt_int_dict {K : PySem.W.Frag} : PySem.W.kitOne K (.type "int") (.type "dict") = some false := kit_ty (by decide +kernel)
theorem kt_str_str {K : PySem.W.Frag} : PySem.W.kitOne K (.type "str") (.type "str") = some true := kit_ty (by decide +kernel)
theorem kt_str_tuple {K : PySem.W.Frag} : PySem.W.kitOne K (.type "str") (.type "tuple") = some false := kit_ty (by decide +kernel)
theorem kt_str_list {K : PySem.W.Frag} : PySem.W.kitOne K (.type "str") (.type "list") = some false := kit_ty (by decide +kernel)
theorem kt_str_dict {K : PySem.W.Frag} : PySem.W.kitOne K (.type "str") (.type "dict") = some false := kit_ty (by decide +kernel)
theorem kt_tuple_tuple {K : PySem.W.Frag} : PySem.W.kitOne K (.type "tuple") (.type "tuple") = some true := kit_ty (by decide +kernel)
theorem kt_tuple_list {K : PySem.W.Frag} : PySem.W.kitOne K (.type "tuple") (.type "list") = some false := kit_ty (by decide +kernel)
theorem kt_tuple_dict {K : PySem.W.Frag} : PySem.W.kitOne K (.type "tuple") (.type "dict") = some false := kit_ty (by decide +kernel)
theorem kt_list_tuple {K : PySem.W.Frag} : PySem.W.kitOne K (.type "list") (.type "tuple") = some false := kit_ty (by decide +kernel)
theorem kt_list_list {K : PySem.W.Frag} : PySem.W.kitOne K (.type "list") (.type "list") = some true := kit_ty (by decide +kernel)
theorem kt_list_dict {K : PySem.W.Frag} : PySem.W.kitOne K (.type "list") (.type "dict") = some false := kit_ty (by decide +kernel)
/-- the value of an assignment -/
def asgV : Stmt → Expr
  | .Assign _ v _ => v
  | _ => .Constant .none 0 ⟨0, 0, 0, 0⟩
open Out (Rt)
section
variable {X : Cy} {e a b c o tg kx vx elt i : Expr} {es ifs : List Expr} {st : Stmt} {sts rest body orelse : List Stmt} {r : Env2} {G : GD} {pos tpos apos cpos p0 : Pos} {D0 : EndsD} {α β γ σT ρ : Type}
theorem we_ifN (en : α → D) {Q : Res → Env2 → GD → Prop}
    (h : WT X c r G fun d r1 G1 => ∃ (β : Type) (ma mb : Out α) (f : α → Out β) (Q0 : β → Prop) (E : Xm → Prop), ((if d = true then ma else mb).bind f).sat Q0 E ∧ (d = true → ∀ Q' : α → Prop, ma.sat Q' E → WE X a r1 G1 fun x r2 G2 => ∃ v, x = .sh (en v) ∧ r2 = r1 ∧ G2 = G1 ∧ Q' v) ∧
      (d = false → ∀ Q' : α → Prop, mb.sat Q' E → WE X b r1 G1 fun x r2 G2 => ∃ v, x = .sh (en v) ∧ r2 = r1 ∧ G2 = G1 ∧ Q' v) ∧ ∀ v, (f v).sat Q0 E → Q (.sh (en v)) r1 G1) : WE X (.IfExp c a b pos) r G Q :=
  we_ifExp (h.mono fun d r1 G1 ⟨β, ma, mb, f, Q0, E, h0, h1, h2, q⟩ => ⟨fun hd => by
    rw [if_pos hd] at h0
    exact (h1 hd _ (Out.sb h0)).mono fun x r2 G2 ⟨v, m1, m2, m3, m4⟩ => by subst m1 m2 m3; exact q v m4, fun hd => by
    rw [if_neg (by rw [hd]; exact Bool.false_ne_true)] at h0
    exact (h2 hd _ (Out.sb h0)).mono fun x r2 G2 ⟨v, m1, m2, m3, m4⟩ => by subst m1 m2 m3; exact q v m4⟩)
theorem we_andN {Q : Res → Env2 → GD → Prop} (h : WE X a r G fun x r1 G1 => ∃ (β : Type) (c1 : Bool) (m : Out Bool) (f : Bool → Out β) (Q0 : β → Prop) (E : Xm → Prop), x = .sh (.bl c1) ∧ ((if c1 = true then m else .ok false).bind f).sat Q0 E ∧ (c1 = true → ∀ Q' : Bool → Prop, m.sat Q' E → WE X (.BoolOp .And (b :: es) pos) r1 G1 fun y r2 G2 => ∃ c2, y = .sh (.bl c2) ∧ r2 = r1 ∧ G2 = G1 ∧ Q' c2) ∧ ∀ v, (f v).sat Q0 E → Q (.sh (.bl v)) r1 G1) : WE X (.BoolOp .And (a :: b :: es) pos) r G Q :=
  we_and (h.mono fun x r1 G1 ⟨β, c1, m, f, Q0, E, hx, h0, h1, q⟩ => ⟨c1, hx, fun hc => by
    rw [if_pos hc] at h0
    exact (h1 hc _ (Out.sb h0)).mono fun y r2 G2 ⟨c2, m1, m2, m3, m4⟩ => by subst m1 m2 m3; exact q c2 m4, fun hc => by
    rw [if_neg (by rw [hc]; exact Bool.false_ne_true)] at h0
    exact q false h0⟩)
theorem ww_orN {Q : Bool → Env2 → GD → Prop} (h : WT X a r G fun c1 r1 G1 => ∃ (β : Type) (m : Out Bool) (f : Bool → Out β) (Q0 : β → Prop) (E : Xm → Prop), ((if c1 = true then .ok true else m).bind f).sat Q0 E ∧ (c1 = false → ∀ Q' : Bool → Prop, m.sat Q' E → WW X (.BoolOp .Or (b :: es) pos) r1 G1 fun d r2 G2 => r2 = r1 ∧ G2 = G1 ∧ Q' d) ∧ ∀ v, (f v).sat Q0 E → Q v r1 G1) : WW X (.BoolOp .Or (a :: b :: es) pos) r G Q :=
  ww_or (h.mono fun c1 r1 G1 ⟨β, m, f, Q0, E, h0, h1, q⟩ => ⟨fun hc => by
    rw [if_neg (by rw [hc]; exact Bool.false_ne_true)] at h0
    exact (h1 hc _ (Out.sb h0)).monoT fun d r2 G2 ⟨m2, m3, m4⟩ => by subst m2 m3; exact q d m4, fun hc => by
    rw [if_pos hc] at h0
    exact q true h0⟩)
/-- {k: v for tg in e}, by a mirror with a state -/
theorem we_dcS {κ ν : Type} [DecidableEq κ] {scope : Scope} (own : List (Str × Nat)) (R : Env2) (gg : σT → GD) {en : α → D} (ek : κ → Key) (ev : ν → D) (hk : KInj ek) {Q : Res → Env2 → GD → Prop} (hc : X.calm = true) (hN : X.N.Nodup) (ok : BlkOk X.N X.env.scope scope own)
    (h : WI X tg e r G fun ds r2 G1 => ∃ (γ : Type) (xs : List α) (s0 : σT) (f : σT → α → Out (Option (κ × ν) × σT)) (kk : List (κ × ν) × σT → Out γ) (Q0 : γ → Prop) (E : Xm → Prop), ds = xs.map en ∧ xs.length ≤ LIM ∧ Wk (wipeD r2 (own.map (·.2))) R ∧ G1 = gg s0 ∧ ((Out.compS f xs [] s0).bind kk).sat Q0 E ∧
      (∀ s x (Q' : Option (κ × ν) × σT → Prop), (f s x).sat Q' E → Blk X scope fun Y => WG Y tg (en x) R (gg s) (own.map (·.2)) fun r3 G3 => match ifs with
        | [] => Blk X scope fun Y => WE Y kx r3 G3 fun z r4 G4 => ∃ k, z = .sh (kD (ek k)) ∧ Blk X scope fun Y => WE Y vx r4 G4 fun z r5 G5 => ∃ y s' r6, fz r5 z = some (ev y, r6) ∧ Wk (wipeD r6 (own.map (·.2))) R ∧ G5 = gg s' ∧ Q' (some (k, y), s')
        | [c] => Blk X scope fun Y => WT Y c r3 G3 fun b r4 G4 => (b = true → Blk X scope fun Y => WE Y kx r4 G4 fun z r5 G5 => ∃ k, z = .sh (kD (ek k)) ∧ Blk X scope fun Y => WE Y vx r5 G5 fun z r6 G6 => ∃ y s' r7, fz r6 z = some (ev y, r7) ∧ Wk (wipeD r7 (own.map (·.2))) R ∧ G6 = gg s' ∧ Q' (some (k, y), s')) ∧ (b = false → ∃ s', Wk (wipeD r4 (own.map (·.2))) R ∧ G4 = gg s' ∧ Q' (none, s'))
        | _ => False) ∧ ∀ p : List (κ × ν) × σT, (kk p).sat Q0 E → Q (.fr (eD ek ev (dmk p.1))) R (gg p.2))
    (hs : ∀ x, foldedSetIterable e X.env x = pure x := by intro _; rfl) : WE X (.DictComp kx vx [⟨tg, e, ifs, 0⟩] scope pos) r G Q :=
  WE.wkp (we_dc own hc hN ok (h.mono fun ds r2 G1 ⟨γ, xs, s0, f, kk, Q0, E, hd, hl, w, hg, h0, hb, hq⟩ => by
    subst hd hg
    refine ⟨fun k acc r3 G3 => ∃ ys s, Wk r3 R ∧ G3 = gg s ∧ acc = eDl ek ev (dmk ys) ∧ ys.length ≤ k ∧ ((Out.compS f (xs.drop k) ys s).bind kk).sat Q0 E, ⟨[], s0, w, rfl, rfl, Nat.le_refl _, h0⟩, fun k d acc r3 G3 hd ⟨ys, s, w3, hG, ha, hly, hq3⟩ => ?_, fun acc r3 G3 ⟨ys, s, w3, hG, ha, hly, hq3⟩ => ?_⟩
    · subst hG ha
      obtain ⟨x, hx, rfl⟩ := map_at hd
      have hlt : k < xs.length := (List.getElem?_eq_some_iff.mp hx).1
      rw [drop_at hx] at hq3
      have st := hb s x _ (compS_step hq3)
      have lim : (eDl ek ev (dmk ys)).length < LIM := by
        unfold eDl
        rw [List.length_map]
        have := dmk_len ys
        omega
      have snoc : ∀ (k : κ) (y : ν), putD (eDl ek ev (dmk ys)) (ek k) (ev y) = eDl ek ev (dmk (ys ++ [(k, y)])) := fun k y => by rw [putD_eDl hk, dmk_snoc]
      intro Y hY
      refine WG.mono (WG.weak w3 (st Y hY)) fun r4 G4 q' => ?_
      match ifs, q' with
      | [], q' =>
        refine fun Y hY => (q' Y hY).mono fun zz r5 G5 ⟨key, hz, q2⟩ => ⟨ek key, hz, fun Y hY => (q2 Y hY).mono fun zz r6 G6 ⟨y, s', r7, m1, m2, m3, m4⟩ => ⟨ev y, r7, m1, lim, ys ++ [(key, y)], s', m2, m3, snoc key y, by rw [List.length_append]; exact Nat.succ_le_succ hly, m4⟩⟩
      | [c], q' =>
        refine fun Y hY => (q' Y hY).mono fun b r5 G5 ⟨q1, q2⟩ => ⟨fun hb1 Y hY => ?_, fun hb0 => ?_⟩
        · exact (q1 hb1 Y hY).mono fun zz r6 G6 ⟨key, hz, q3⟩ => ⟨ek key, hz, fun Y hY => (q3 Y hY).mono fun zz r7 G7 ⟨y, s', r8, m1, m2, m3, m4⟩ => ⟨ev y, r8, m1, lim, ys ++ [(key, y)], s', m2, m3, snoc key y, by rw [List.length_append]; exact Nat.succ_le_succ hly, m4⟩⟩
        · obtain ⟨s', m2, m3, m4⟩ := q2 hb0
          exact ⟨ys, s', m2, m3, rfl, Nat.le_succ_of_le hly, m4⟩
      | _ :: _ :: _, q' => exact q'.elim
    · subst hG ha
      rw [List.length_map, List.drop_length] at hq3
      rw [eD_dicD]
      exact ⟨R, w3, (fun i z => by cases z), hq (ys, s) hq3⟩) hs)
end
open Out (Rt)
section
variable {prog : Program} {w : World} {A : Around} {E : Value → Shared → Prop} {s : Shared}
theorem nextOf_key_item {it d : Addr} {i n ep : Nat} {od : Obj} {es : Array DictEntry} {en : DictEntry} {Q : Value → Shared → Prop} (hit : s.heap.IsKeyIter it d i n ep) (hod : s.heap.get? d = some od) (hdd : od.data = .dict es ep)
    (hsz : es.size = n) (hx : es[i]? = some en) (hQ : ∀ h', h'.IsKeyIter it d (i + 1) n ep → Heap.SameBut it s.heap h' → Q en.key { s with heap := h' }) : wpAny (model prog w) A (Builtin.SmallTypes.nextOf (.ref it)) Q E s := by
  obtain ⟨o, ho, hc, hd⟩ := id hit
  unfold Builtin.SmallTypes.nextOf
  refine wpAny_bind (wpAny_callSpecial?_slot (name := Str.ofString "__next__") hit.typeIs F.slot_dict_keyiterator_next
    (wpAny_call_entry F.slot_dict_keyiterator_next hit.typeIs F.entry_dict_keyiterator_next ?_ (F.args_dict_keyiterator_next_1 _)))
  refine wpAny_bind (wpAny_pure ?_)
  refine wpAny_bind ?_
  refine wpAny_bind ?_
  first | refine wpAny_bind (wpAny_typeNameOfWhole_keyiter hit.typeIs (wpAny_pure ?_)) | refine wpAny_bind (wpAny_typeNameOf_keyiter hit.typeIs (wpAny_pure ?_))
  refine wpAny_bind (wpAny_fieldsOf ho hd ?_)
  have hown : Builtin.Dict_items.ownsTuple "dict_keyiterator" = false := by decide
  simp only [hown, Bool.false_eq_true, if_false]
  show wpAny _ _ (if (Value.ref d == Value.none) = true then _ else _) _ _ s
  rw [if_neg (show ¬ ((Value.ref d == Value.none) = true) from Bool.false_ne_true)]
  refine wpAny_bind (wpAny_pure ?_)
  refine wpAny_bind (wpAny_dictEntries hod hdd ?_)
  rw [if_neg (by rw [hsz]; simp)]
  refine wpAny_bind (wpAny_pure ?_)
  refine wpAny_bind (wpAny_dictEpoch hod hdd ?_)
  rw [if_neg (by simp)]
  refine wpAny_pure ?_
  obtain ⟨hlt', hen⟩ := Array.getElem?_eq_some_iff.mp hx
  simp only [show ¬ ((i : Int) < 0) from by omega, if_false, Int.toNat_natCast, Array.getElem?_eq_getElem hlt']
  refine wpAny_bind ?_
  first | refine wpAny_bind (wpAny_typeNameOfWhole_keyiter hit.typeIs (wpAny_pure ?_)) | refine wpAny_bind (wpAny_typeNameOf_keyiter hit.typeIs (wpAny_pure ?_))
  refine wpAny_bind (wpAny_isOneOf_keyiter hit.typeIs ?_)
  show wpAny _ _ (setField (.ref it) 1 (rawInt ((i : Int) + 1)) >>= _) _ _ s
  refine wpAny_bind (wpAny_setField ho hd (by simp) ?_)
  have hit' : (s.heap.update it (Obj.mapFields (·.setIfInBounds 1 (rawInt ((i : Int) + 1))))).IsKeyIter it d (i + 1) n ep :=
    ⟨_, Heap.get?_update_self _ ho (Obj.isFreed_of_fields (Obj.data_mapFields hd _)), (Obj.cls_mapFields ..).trans hc, by rw [Obj.data_mapFields hd]; simp [rawInt]⟩
  refine wpAny_bind (wpAny_holding ?_)
  refine wpAny_bind (wpAny_isOneOf_keyiter (s := { s with heap := s.heap.update it (Obj.mapFields (·.setIfInBounds 1 (rawInt ((i : Int) + 1)))) }) hit'.typeIs ?_)
  show wpAny _ _ (pure es[i].key) _ _ _
  rw [hen]
  exact wpAny_pure (wpAny_pure ⟨_, rfl, wpAny_pure (hQ _ hit' (Heap.SameBut.update ..))⟩)
theorem nextOf_key_end {it d : Addr} {i n ep : Nat} {od : Obj} {es : Array DictEntry} {Q : Value → Shared → Prop} (hh : A.handled = none) (hit : s.heap.IsKeyIter it d i n ep) (hod : s.heap.get? d = some od) (hdd : od.data = .dict es ep)
    (hsz : es.size = n) (hge : n ≤ i) (hE : ∀ h' e, Heap.ExtBut it s.heap h' → (∃ o, h'.get? e = some o ∧ o.cls = .type "StopIteration") → E (.ref e) { s with heap := h' }) : wpAny (model prog w) A (Builtin.SmallTypes.nextOf (.ref it)) Q E s := by
  obtain ⟨o, ho, hc, hd⟩ := id hit
  unfold Builtin.SmallTypes.nextOf
  refine wpAny_bind (wpAny_callSpecial?_slot (name := Str.ofString "__next__") hit.typeIs F.slot_dict_keyiterator_next
    (wpAny_call_entry F.slot_dict_keyiterator_next hit.typeIs F.entry_dict_keyiterator_next ?_ (F.args_dict_keyiterator_next_1 _)))
  refine wpAny_bind (wpAny_pure ?_)
  refine wpAny_bind ?_
  refine wpAny_bind ?_
  first | refine wpAny_bind (wpAny_typeNameOfWhole_keyiter hit.typeIs (wpAny_pure ?_)) | refine wpAny_bind (wpAny_typeNameOf_keyiter hit.typeIs (wpAny_pure ?_))
  refine wpAny_bind (wpAny_fieldsOf ho hd ?_)
  have hown : Builtin.Dict_items.ownsTuple "dict_keyiterator" = false := by decide
  simp only [hown, Bool.false_eq_true, if_false]
  show wpAny _ _ (if (Value.ref d == Value.none) = true then _ else _) _ _ s
  rw [if_neg (show ¬ ((Value.ref d == Value.none) = true) from Bool.false_ne_true)]
  refine wpAny_bind (wpAny_pure ?_)
  refine wpAny_bind (wpAny_dictEntries hod hdd ?_)
  rw [if_neg (by rw [hsz]; simp)]
  refine wpAny_bind (wpAny_pure ?_)
  refine wpAny_bind (wpAny_dictEpoch hod hdd ?_)
  rw [if_neg (by simp)]
  refine wpAny_pure ?_
  have hge' : es.size ≤ i := by rw [hsz]; exact hge
  simp only [show ¬ ((i : Int) < 0) from by omega, if_false, Int.toNat_natCast, Array.getElem?_eq_none hge']
  refine wpAny_bind ?_
  first | refine wpAny_bind (wpAny_typeNameOfWhole_keyiter hit.typeIs (wpAny_pure ?_)) | refine wpAny_bind (wpAny_typeNameOf_keyiter hit.typeIs (wpAny_pure ?_))
  show wpAny _ _ (setField (.ref it) 0 .none >>= _) _ _ s
  refine wpAny_bind (wpAny_setField ho hd (by simp) ?_)
  show wpAny _ _ (newExc (.type "StopIteration") [] >>= _) _ _ _
  refine wpAny_bind ?_
  simp only [newExc, newTuple]
  refine wpAny_bind (wpAny_newObj_type ?_ (by size_fits))
  refine wpAny_bind (m := firstArgMember _ _) (wpAny_of_eq (a := Value.none) (by first | rfl | (simp only [firstArgMember]; rfl)) ?_)
  refine wpAny_newObj_type ?_ (by size_fits)
  simp only [raiseNew]
  refine wpAny_bind (wpAny_handled ?_)
  rw [show A.in1.handled = none from hh]
  refine wpAny_bind (wpAny_pure (wpAny_throw ?_))
  exact hE _ _ (((Heap.SameBut.update ..).extBut.push _).push _) ⟨_, Heap.get?_push_size _ rfl, rfl⟩
theorem drawsK (hh : A.handled = none) (it d : Addr) (hne : d ≠ it) (od : Obj) (es : Array DictEntry) (ep : Nat) (hdd : od.data = .dict es ep) :
    Draws prog w A it [it, d] es.size (fun i v => ∃ en, es[i]? = some en ∧ v = en.key) (fun i h => h.IsKeyIter it d i es.size ep ∧ h.get? d = some od) where
  live := fun _ _ st => let ⟨o, ho, _⟩ := st.1; ⟨o, ho⟩
  frame := fun _ _ _ st hk => ⟨st.1.at fun o e => hk it (by simp) o e, hk d (by simp) od st.2⟩
  item := fun i s Q E hi st hQ => by
    refine nextOf_key_item st.1 st.2 hdd rfl (en := es[i]) (by simp [hi]) fun h' hit' hs' => ?_
    exact hQ _ h' s.toks ⟨_, by simp [hi], rfl⟩ ⟨hit', (hs'.2 d hne).trans st.2⟩ hs'
  done := fun s Q E st hE => nextOf_key_end hh st.1 st.2 hdd rfl (Nat.le_refl _) hE
abbrev kIt (d : Addr) (n ep : Nat) : Obj := { cls := .type "dict_keyiterator", data := .fields #[.ref d, .int 0 0, .int n 0, .int ep 0] }
theorem meets_enumK (d : Addr) (o : Obj) (es : Array DictEntry) (ep : Nat) (hd : (d == sysModules) = false) (hc : o.ExactDict) (hdat : o.data = .dict es ep) :
    Meets (Builtin.«enumerate.__new__» ⟨[.type "enumerate", .ref d], []⟩) (fun _ R s => s.heap.get? d = some o ∧
      R (.ok (.ret (.ref (s.heap.push (kIt d es.size ep)).objs.size))) { s with heap := (s.heap.push (kIt d es.size ep)).push (enO s.heap.objs.size) }) :=
  .of_wp fun prog w A R s h => by
    obtain ⟨c, dc, dt, sl⟩ := o
    obtain ⟨h1, h2⟩ := id hc
    cases h1
    obtain ⟨hp, g, dg, tk, os⟩ := s; obtain ⟨hl, h⟩ := h
    have sub := sub_enumerate
    wp_walk using AutoSeq1.wpAny_loadPart' hl
    refine wpAny_stack_any fun st => wpAny_pure ?_
    split
    · rename_i c _ _ _ _ _
      cases (c == Value.type "enumerate")
      all_goals
        wp_walk using AutoSeq1.wpAny_loadPart' hl, iter_keys hd hl hc hdat
        exact ⟨_, rfl, h⟩
    · wp_walk using AutoSeq1.wpAny_loadPart' hl, iter_keys hd hl hc hdat
      exact ⟨_, rfl, h⟩
theorem callEnumK {d : Addr} {o : Obj} {es : Array DictEntry} {ep : Nat} {Q : Value → Shared → Prop} (hd : (d == sysModules) = false) (ho : s.heap.get? d = some o) (hc : o.ExactDict) (hdat : o.data = .dict es ep)
    (h : ∀ h', IsEnum h' (s.heap.objs.size + 1) s.heap.objs.size 0 .none → h'.IsKeyIter s.heap.objs.size d 0 es.size ep → (∀ b o, s.heap.get? b = some o → h'.get? b = some o) → Q (.ref (s.heap.objs.size + 1)) { s with heap := h' }) :
    wpAny (model prog w) A (call (.type "enumerate") [.ref d]) Q E s := by
  refine callType_new F.called_enumerate (by decide) (F.typeCall_enumerate_1 _) (F.newCall_enumerate_1 _) (fun obj => F.args_object_init_2 obj _) F.entry_enumerate_new (meets_enumK d o es ep hd hc hdat) ⟨ho, ?_⟩
  have z : (s.heap.push (kIt d es.size ep)).objs.size = s.heap.objs.size + 1 := Heap.size_push ..
  show _ ∧ _
  rw [z]
  have he : IsEnum ((s.heap.push (kIt d es.size ep)).push (enO s.heap.objs.size)) (s.heap.objs.size + 1) s.heap.objs.size 0 .none := by
    have q := Heap.get?_push_size (s.heap.push (kIt d es.size ep)) (o := enO s.heap.objs.size) rfl
    rw [z] at q
    exact q
  exact ⟨⟨_, he, rfl⟩, h _ he ⟨_, Heap.get?_push_of_some _ (Heap.get?_push_size _ rfl), rfl, rfl⟩ fun b o x => Heap.get?_push_of_some _ (Heap.get?_push_of_some _ x)⟩
end
/-- the keys of the locked dict d, each in a new pair -/
def ItK2 (d : Addr) (o : Obj) (kvs : List (Key × V)) : It :=
  ⟨fun i H => H d = some (.frz o (.dK kvs)) ∧ i < kvs.length, fun i H v H' => ∃ T k x, v = .ref T ∧ H T = none ∧ H' = upd H T (.tup [.int (i : Nat), kV k]) ∧ kvs[i]? = some (k, x), fun i H => H d = some (.frz o (.dK kvs)) ∧ kvs.length = i⟩
theorem turn_enumK {P : Program} {w : World} {K : PySem.W.Frag} {elts : List Expr} {kk : Nat} {tpos : Pos} (d e it : Addr) (o : Obj) (es : Array DictEntry) (ep : Nat) (kvs : List (Key × V)) (hod : o.data = .dict es ep) (hde : d ≠ e) (hdi : d ≠ it) (hsz0 : es.size = kvs.length) :
    Turn P w K (.Tuple elts kk tpos) (ItK2 d o kvs) [e, it] e (fun i h => (∃ old, IsEnum h e it ((i : Nat) : Int) old) ∧ h.IsKeyIter it d i es.size ep ∧ e ≠ it) where
  mem := by simp
  obj := fun i h st b hb => by
    obtain ⟨⟨old, he⟩, ⟨o, ho, hc, hd⟩, _⟩ := st
    rcases (by simpa using hb : b = e ∨ b = it) with z | z
    · rw [z]; exact ⟨_, he, fun v q => nomatch q⟩
    · rw [z]; exact ⟨o, ho, fun v q => by rw [hd] at q; cases q⟩
  keep := fun i h h' ⟨⟨old, he⟩, hi, hne⟩ k => ⟨⟨old, k e (by simp) _ he⟩, hi.at fun o q => k it (by simp) o q, hne⟩
  item := by
    intro X hP hw hK hc i pins s σ H E I hf st hg
    subst hP hw hK
    obtain ⟨⟨old, he⟩, hit, hne⟩ := st
    obtain ⟨hd, hi⟩ := hg
    obtain ⟨hs, hgd, hx, es', ep', vs, hdt, hsz, kv, hm⟩ := I.frzK hd
    obtain ⟨rfl, rfl⟩ := dict_ep hod hdt
    obtain ⟨⟨k, v⟩, hkv⟩ : ∃ p, kvs[i]? = some p := ⟨kvs[i], List.getElem?_eq_getElem hi⟩
    obtain ⟨u, hu, ru⟩ := kv_get kv hkv
    have hel : e < s.heap.objs.size := Heap.lt_size he
    have hil : it < s.heap.objs.size := by obtain ⟨_, q, _⟩ := hit; exact Heap.lt_size q
    have dr := drawsK (prog := X.prog) (w := X.w) (A := X.A.in1) (I.ok.hd hc) it d hdi o es' ep' hod
    refine wpAny_pyNext_enum_itemD dr he ⟨hit, hgd⟩ (by rw [hsz]; exact hi) hne (by simp [hne, hde.symm]) fun x' h' tk ⟨en, hen, hx'⟩ ho hit' hT hsz' hk => ?_
    have rk : RelV (kV k) x' := by
      obtain ⟨od, es2, hod2, _, hdd2, _, hp, _⟩ := id hm
      rw [hgd] at hod2; cases hod2
      rw [hod] at hdd2; cases hdd2
      rw [hx']
      exact relV_key (show keyIs k en.key = true from (hp.get? (by rw [Array.getElem?_toList]; exact hen) hu).1)
    refine ⟨_, rfl, wpAny_letOwnedTupleGo_enum (s := { s with heap := h', toks := tk + 1 }) ho fun h'' he' sb => ?_⟩
    have hT2 : h''.get? s.heap.objs.size = some { cls := .type "tuple", data := .seq #[.int i tk, x'] } := (sb.2 _ (Nat.ne_of_gt hel)).trans hT
    have new : ObjOk X.prog X.w (upd H s.heap.objs.size (.tup [.int (i : Nat), kV k])) h'' s.heap.objs.size (.tup [.int (i : Nat), kV k]) :=
      ⟨by show 2 ≤ sizeLine; decide, [.int i tk, x'], .cons ⟨_, rfl⟩ (.cons rk .nil), ⟨_, hT2, rfl, _, rfl⟩⟩
    have I1 : Inv X pins σ (upd H s.heap.objs.size (.tup [.int (i : Nat), kV k])) { s with heap := h'', toks := tk + 1 } :=
      I.turnedNew (ch := [e, it]) (fun b ob hb q => (sb.2 b (fun z => hb (by simp [z]))).trans (hk b ob (fun z => hb (by simp [z])) (fun z => hb (by simp [z])) q)) hf (Nat.le_refl _) new
    refine ⟨.ref s.heap.objs.size, _, I1, rfl, ⟨_, k, v, rfl, I.hok.fresh (Nat.le_refl _), rfl, hkv⟩, ⟨⟨x', he'⟩, hit'.1.at fun o q => (sb.2 it (Ne.symm hne)).trans q, hne⟩, fun b hb => ?_⟩
    have hb' : b < s.heap.objs.size := by
      rcases (by simpa using hb : b = e ∨ b = it) with z | z
      · rw [z]; exact hel
      · rw [z]; exact hil
    rw [upd_ne (Nat.ne_of_lt hb')]
    exact (hf b hb).1
  done := by
    intro X hP hw hK hc i pins s σ H E I hf st hg
    subst hP hw hK
    obtain ⟨⟨old, he⟩, hit, hne⟩ := st
    obtain ⟨hd, hx⟩ := hg
    obtain ⟨hs, hgd, hx2, es', ep', vs, hdt, hsz, kv, hm⟩ := I.frzK hd
    obtain ⟨rfl, rfl⟩ := dict_ep hod hdt
    obtain ⟨f0, f1, f2, f3, f4, f5⟩ := hf it (by simp)
    have hl : es'.size = i := by rw [hsz]; exact hx
    subst hl
    exact wpAny_pyNext_enum_endD (drawsK (prog := X.prog) (w := X.w) (A := X.A.in1) (I.ok.hd hc) it d hdi o es' ep' hod) he ⟨hit, hgd⟩ fun h' eb => ⟨rfl, I.turned (t' := s.toks) (fun b o hb q => eb b o hb q) f0 f1 f3 f4 f5⟩
  self := fun A i s Q E ⟨⟨_, he⟩, _⟩ h => wpAny_pyIter_enum he h
def iEnumK (ta : TA) : TI := fun σ H R => ta σ H fun vs H1 => ∃ d o kvs, vs = [.ref d] ∧ H1 d = some (.frz o (.dK kvs)) ∧ R (ItK2 d o kvs) H1
theorem pi_enumK {X : Cx} {e : Expr} {ta : TA} {p pos tpos : Pos} {elts : List Expr} {kk : Nat} (hg : Gl X "enumerate") (hm : X.mg "enumerate" = none) (ha : PA X [e] ta) (hs : starEach [e] X.env = [(false, eval e X.env)] := by rfl) :
    PI X (.Tuple elts kk tpos) (.Call (.Name "enumerate" p) [e] [] pos) (iEnumK ta) := by
  refine ⟨fun pins s σ H R I h => ?_⟩
  refine Call_ (ld_blt I hg hm boot_enumerate (PyProof.Rows.callWith_type1 (thn (ha.run pos pins s σ H _ I h) fun us s1 ⟨vs, H1, I1, r1, q1⟩ => ?_) hs rfl))
  obtain ⟨d, o, kvs, ex, hd, q⟩ := q1
  subst ex
  cases r1 with
  | cons rl rr =>
    cases rr
    cases rl
    obtain ⟨hsy, hgd, hx, es, ep, vs, hdt, hsz, kv, hmm⟩ := I1.frzK hd
    have hdl : d < s1.heap.objs.size := Heap.lt_size hgd
    refine callEnumK hsy hgd hx hdt fun h' he hit hk => wpAny_pyIter_enum he ?_
    refine ⟨s1.heap.objs.size + 1, [s1.heap.objs.size + 1, s1.heap.objs.size], _, _, H1, rfl, I1.kept (t' := s1.toks) hk, turn_enumK d (s1.heap.objs.size + 1) s1.heap.objs.size o es ep kvs hdt (Nat.ne_of_lt (Nat.lt_succ_of_lt hdl)) (Nat.ne_of_lt hdl) hsz, ⟨⟨.none, he⟩, hit, Nat.succ_ne_self _⟩, fun b hb => ?_, q⟩
    have hle : s1.heap.objs.size ≤ b := by
      rcases (by simpa using hb : b = s1.heap.objs.size + 1 ∨ b = s1.heap.objs.size) with z | z
      · rw [z]; exact Nat.le_succ _
      · rw [z]; exact Nat.le_refl _
    exact I1.fpOk hle (I1.hok.fresh hle)
section
variable {X : Cy} {e a b c o tg kx vx elt i : Expr} {es ifs elts : List Expr} {kk : Nat} {st : Stmt} {sts rest body orelse : List Stmt} {r : Env2} {G : GD} {pos tpos apos cpos p0 : Pos} {D0 : EndsD} {α β γ σT ρ : Type}
theorem ti_enumD {κ ν : Type} {k : κ → Key} {f : ν → D} {Q : List D → Env2 → GD → Prop} (hg : Gl X "enumerate") (hm : X.mg "enumerate" = none) (h : WE X a r G fun x r1 G1 => ∃ (kvs : List (κ × ν)) (r2 : Env2), fz r1 x = some (eD k f kvs, r2) ∧ ((penum (kvs.map (·.1))).length ≤ LIM → Q ((penum (kvs.map (·.1))).map (eP eI fun x => kD (k x))) r2 G1)) (hst : starEach [a] X.env = [(false, eval a X.env)] := by rfl) :
    WI X (.Tuple elts kk tpos) (.Call (.Name "enumerate" p0) [a] [] pos) r G Q := fun F0 T F H σ lk S =>
  RunI.of (pi_enumK hg hm (pa_cons peR pa_nil hst) hst) ((h F0 T F H σ lk S).bl.mono fun v H1 ⟨bl, x, r1, G1, F1, e1, S1, k1, kvs, r2, q1, q2⟩ => by
    obtain ⟨Fa, e2, Sa, rp⟩ := S1.fz k1 q1
    obtain ⟨ad, ob, vs, rfl, z1, z2, z3⟩ := rp
    have hl : (kvs.map fun p => k p.1).length = vs.length := by rw [z3.length]; exact z2
    have hl2 : ((kvs.map fun p => k p.1).zip vs).length = kvs.length := by rw [zip_len hl, List.length_map]
    have hlim : kvs.length ≤ LIM := by have := bl.2.2 ad _ (.inr ⟨ob, Sa.bas.fh _ _ z1⟩); rw [hl2] at this; exact this
    have hpl : (penum (kvs.map (·.1))).length = kvs.length := by unfold penum; rw [penumF_len, List.length_map]
    have e9 : enumD 0 ((kvs.map (·.1)).map fun x => kD (k x)) = (penum (kvs.map (·.1))).map (eP eI fun x => kD (k x)) := enum_map _ 0
    rw [← e9] at q2
    refine ⟨ad, ob, _, rfl, Sa.bas.fh _ _ z1, enumD 0 ((kvs.map (·.1)).map fun x => kD (k x)), r2, G1, Fa, e1.trans e2, Sa, fun F H ea eh => ⟨⟨eh _ _ (ea _ _ z1), by rw [enumD_len, hl2, List.length_map, List.length_map]⟩, fun i d hi => ?_⟩, q2 (by rw [hpl]; exact hlim)⟩
    obtain ⟨d', hd, rfl⟩ := enumD_get hi
    rw [List.map_map, List.getElem?_map] at hd
    cases hk : kvs[i]? with
    | none => rw [hk] at hd; cases hd
    | some kv =>
      rw [hk] at hd; cases hd
      have hlt : i < kvs.length := (List.getElem?_eq_some_iff.mp hk).1
      refine ⟨⟨eh _ _ (ea _ _ z1), by rw [hl2]; exact hlt⟩, fun x H' ⟨p, key, y, hx, hp, hH, hy⟩ => .inr ⟨p, _, hp, hH, hx, ?_⟩⟩
      have := (zip_get' hy).1
      rw [List.getElem?_map, hk] at this; cases this
      rw [Nat.zero_add]
      exact rep_pair (none_F eh hp) rfl (kD_rep _))
end
open Out (Rt)
section
variable {X : Cy} {e a b c o tg kx vx elt i : Expr} {es ifs : List Expr} {st : Stmt} {sts rest body orelse : List Stmt} {r : Env2} {G : GD} {pos tpos apos cpos p0 : Pos} {D0 : EndsD} {α β γ σT ρ : Type}
theorem ResOk.newH {K : PySem.W.Frag} {T F : Hp} {G : GD} {H : Hp} {r : Env2} {σ : L2.St} {x : Res} {v : V} {p : Addr} {o : HO} (h : ResOk K T F G H r σ x v) (hp : H p = none) (hx : ∀ i, x ≠ .pk i) : ResOk K T F G (upd H p o) r σ x v := by
  cases x with
  | sh d => exact h
  | fr d =>
    obtain ⟨q, h1, h2, h3⟩ := h
    exact ⟨q, h1, h2.mono (Ex.refl _) fun o' e => by rw [upd_ne (ne_of_none e hp)]; exact e, h3⟩
  | pk i => exact absurd rfl (hx i)
/-- a, b = e1, e2 with names that are cells: by a tuple -/
theorem ws_parT (i j : Nat) {x y : Str} {px py pt : Pos} {kt k2 : Nat} {pt2 : Pos} (hc : X.calm = true) (nd : X.N.Nodup) (hi : X.N[i]? = some x) (hj : X.N[j]? = some y) (hx : L2.Loc X.env.scope x) (hy : L2.Loc X.env.scope y)
    (h : WE X a r G fun z r1 G1 => ∃ z' r2, nz r1 z = some (z', r2) ∧ WE X b r2 G1 fun w r3 G3 => ∃ w' r4, nz r3 w = some (w', r4) ∧ i < r4.length ∧ j < r4.length ∧ D0.nx ((r4.set i (slO z')).set j (slO w')) G3)
    (hfx : X.fn x = true ∨ X.env.scope.names.lookup x = some .local := by first | exact .inl rfl | exact .inr rfl | assumption) (hfy : X.fn y = true ∨ X.env.scope.names.lookup y = some .local := by first | exact .inl rfl | exact .inr rfl | assumption)
    (hn : (assignEach [.Name x px, .Name y py] X.env).length = 2 := by rfl) (hf : (assignEach [.Name x px, .Name y py] X.env).findIdx? (·.1) = none := by rfl)
    (hs : swapsWithSole [.Tuple [.Name x px, .Name y py] kt pt] (.Tuple [a, b] k2 pt2) pos.line X.env = pure false := by rfl) (hw : swappedStores [.Tuple [.Name x px, .Name y py] kt pt] (.Tuple [a, b] k2 pt2) X.env = pure none := by rfl)
    (h1 : (assignEach [.Tuple [.Name x px, .Name y py] kt pt] X.env).map (·.2) = [assign (.Tuple [.Name x px, .Name y py] kt pt) X.env] := by rfl)
    (s1 : starEach [a, b] X.env = (false, eval a X.env) :: starEach [b] X.env := by rfl) (s2 : starEach [b] X.env = (false, eval b X.env) :: starEach [] X.env := by rfl) :
    WS X (.Assign [.Tuple [.Name x px, .Name y py] kt pt] (.Tuple [a, b] k2 pt2) pos) r G D0 := fun F0 T F H σ lk S =>
  RunS.of (ps_asg (pe_tup (pa_cons peR (pa_cons peR pa_nil s2) s1)) (pg_tup hc (pgs_run (ixs := [i, j]) (.cons (pg_name nd hi hx hfx) (.cons (pg_name nd hj hy hfy) .nil)) (fun t ht ts => by
    rcases List.mem_cons.mp ht with z | z
    · subst z; rfl
    · rcases List.mem_cons.mp z with z | z
      · subst z; rfl
      · simp at z)) hn hf) hs hw h1) ((h F0 T F H σ lk S).mono fun v H1 ⟨z, r1, G1, F1, e1, S1, k1, z', r2, q1, q2⟩ => by
    obtain ⟨F2, e2, S2, k2, hz⟩ := S1.nz k1 q1
    obtain ⟨T', tx, S2', hold⟩ := holdT S2 k2 hz
    refine (q2 F0 T' F2 H1 σ (lk.ext tx) S2').mono fun w H3 ⟨u, r3, G3, F3, e3, S3, k3, w', r4, q3, hi', hj', q4⟩ => ?_
    obtain ⟨F4, e4, S4, k4, hz4⟩ := S3.nz k3 q3
    obtain ⟨S5, m1, m2⟩ := hold F4 G3 H3 r4 σ (e3.trans e4) S4
    obtain ⟨m3, m4⟩ := m2 w' w k4
    refine ⟨(by show 2 ≤ sizeLine; decide), fun p hp => ⟨p, [v, w], rfl, .inl (.inl upd_same), rfl, rfl, ?_⟩⟩
    exact ⟨_, G3, F4, ((S5.newH hp).setR (m1.newH hp hz) hi' hz).setR ((m3.newH hp hz4).setR hi' S5.len hz hz4 m4) (by rw [List.length_set]; exact hj') hz4, q4⟩)
/-- a, b, c = e1, e2, e3 with cells -/
theorem ws_parT3 (i j l : Nat) {x y z : Str} {c : Expr} {px py pz pt : Pos} {kt k2 : Nat} {pt2 : Pos} (hc : X.calm = true) (nd : X.N.Nodup) (hi : X.N[i]? = some x) (hj : X.N[j]? = some y) (hl : X.N[l]? = some z) (hx : L2.Loc X.env.scope x) (hy : L2.Loc X.env.scope y) (hz0 : L2.Loc X.env.scope z)
    (h : WE X a r G fun z1 r1 G1 => ∃ z1' r2, nz r1 z1 = some (z1', r2) ∧ WE X b r2 G1 fun w r3 G3 => ∃ w' r4, nz r3 w = some (w', r4) ∧ WE X c r4 G3 fun u r5 G5 => ∃ u' r6, nz r5 u = some (u', r6) ∧ i < r6.length ∧ j < r6.length ∧ l < r6.length ∧ D0.nx (((r6.set i (slO z1')).set j (slO w')).set l (slO u')) G5)
    (hfx : X.fn x = true ∨ X.env.scope.names.lookup x = some .local := by first | exact .inl rfl | exact .inr rfl | assumption) (hfy : X.fn y = true ∨ X.env.scope.names.lookup y = some .local := by first | exact .inl rfl | exact .inr rfl | assumption) (hfz : X.fn z = true ∨ X.env.scope.names.lookup z = some .local := by first | exact .inl rfl | exact .inr rfl | assumption)
    (hn : (assignEach [.Name x px, .Name y py, .Name z pz] X.env).length = 3 := by rfl) (hf : (assignEach [.Name x px, .Name y py, .Name z pz] X.env).findIdx? (·.1) = none := by rfl)
    (hs : swapsWithSole [.Tuple [.Name x px, .Name y py, .Name z pz] kt pt] (.Tuple [a, b, c] k2 pt2) pos.line X.env = pure false := by rfl) (hw : swappedStores [.Tuple [.Name x px, .Name y py, .Name z pz] kt pt] (.Tuple [a, b, c] k2 pt2) X.env = pure none := by rfl)
    (h1 : (assignEach [.Tuple [.Name x px, .Name y py, .Name z pz] kt pt] X.env).map (·.2) = [assign (.Tuple [.Name x px, .Name y py, .Name z pz] kt pt) X.env] := by rfl)
    (s1 : starEach [a, b, c] X.env = (false, eval a X.env) :: starEach [b, c] X.env := by rfl) (s2 : starEach [b, c] X.env = (false, eval b X.env) :: starEach [c] X.env := by rfl) (s3 : starEach [c] X.env = (false, eval c X.env) :: starEach [] X.env := by rfl) :
    WS X (.Assign [.Tuple [.Name x px, .Name y py, .Name z pz] kt pt] (.Tuple [a, b, c] k2 pt2) pos) r G D0 := fun F0 T F H σ lk S =>
  RunS.of (ps_asg (pe_tup (pa_cons peR (pa_cons peR (pa_cons peR pa_nil s3) s2) s1)) (pg_tup hc (pgs_run (ixs := [i, j, l]) (.cons (pg_name nd hi hx hfx) (.cons (pg_name nd hj hy hfy) (.cons (pg_name nd hl hz0 hfz) .nil))) (fun t ht ts => by
    rcases List.mem_cons.mp ht with z | z
    · subst z; rfl
    · rcases List.mem_cons.mp z with z | z
      · subst z; rfl
      · rcases List.mem_cons.mp z with z | z
        · subst z; rfl
        · simp at z)) hn hf) hs hw h1) ((h F0 T F H σ lk S).mono fun v H1 ⟨z1, r1, G1, F1, e1, S1, k1, z1', r2, q1, q2⟩ => by
    obtain ⟨F2, e2, S2, k2, hz⟩ := S1.nz k1 q1
    obtain ⟨T', tx, S2', hold⟩ := holdT S2 k2 hz
    refine (q2 F0 T' F2 H1 σ (lk.ext tx) S2').mono fun w H3 ⟨u, r3, G3, F3, e3, S3, k3, w', r4, q3, q4⟩ => ?_
    obtain ⟨F4, e4, S4, k4, hz4⟩ := S3.nz k3 q3
    obtain ⟨T2, tx2, S4', hold2⟩ := holdT S4 k4 hz4
    refine (q4 F0 T2 F4 H3 σ ((lk.ext tx).ext tx2) S4').mono fun t H5 ⟨u5, r5, G5, F5, e5, S5, k5, u', r6, q5, hi', hj', hl', q6⟩ => ?_
    obtain ⟨F6, e6, S6, k6, hz6⟩ := S5.nz k5 q5
    obtain ⟨S7, n1, n2⟩ := hold2 F6 G5 H5 r6 σ (e5.trans e6) S6
    obtain ⟨n3, n4⟩ := n2 u' t k6
    obtain ⟨S8, m1, m2⟩ := hold F6 G5 H5 r6 σ ((e3.trans e4).trans (e5.trans e6)) S7
    obtain ⟨m3, m4⟩ := m2 w' w n1
    obtain ⟨m5, m6⟩ := m2 u' t n3
    refine ⟨(by show 3 ≤ sizeLine; decide), fun p hp => ⟨p, [v, w, t], rfl, .inl (.inl upd_same), rfl, rfl, ?_⟩⟩
    have A1 := (S8.newH (o := .tup [v, w, t]) hp).setR (m1.newH hp hz) hi' hz
    have A2 := A1.setR ((m3.newH hp hz4).setR hi' S8.len hz hz4 m4) (by rw [List.length_set]; exact hj') hz4
    have A3 := A2.setR (((m5.newH hp hz6).setR hi' S8.len hz hz6 m6).setR (by rw [List.length_set]; exact hj') A1.len hz4 hz6 n4) (by rw [List.length_set, List.length_set]; exact hl') hz6
    exact ⟨_, G5, F6, A3, q6⟩)
end
open Out (Rt)
section
variable {X : Cy} {e a b c o tg kx vx elt i : Expr} {es ifs : List Expr} {st : Stmt} {sts rest body orelse : List Stmt} {r : Env2} {G : GD} {pos tpos apos cpos p0 : Pos} {D0 : EndsD} {α β γ σT ρ : Type}
theorem ints_rep {K : PySem.W.Frag} {F : Hp} : ∀ (ns : List Int), RepL K F (ns.map D.int) (ns.map V.int)
  | [] => rfl
  | n :: ns => ⟨_, _, rfl, rfl, ints_rep ns⟩
theorem Vw.scr {K : PySem.W.Frag} {F H : Hp} (ex : Ex F H) {ns : List Int} {v : V} (h : Vw K F H (.scr ns) v) : ∃ a, v = .ref a ∧ SqL K H a (ns.map V.int) := by
  rcases h with ⟨a, h1, h2⟩ | ⟨_, _, h⟩
  · exact ⟨a, h1, ex.sqL h2⟩
  · exact h.elim
theorem c_listR {ns : List Int} {Q : Res → Prop} (q : Q (.fr (.lst (ns.map D.int)))) : CallW1 X (.type "list") (.scr ns) Q := fun F0 T F G H r σ v S hv => by
  obtain ⟨p, rfl, k1⟩ := hv.scr S.bas.fh
  exact ⟨_, call_list_of, p, _, rfl, .inl k1, fun l hl => new_lst S (ints_rep ns) hl q⟩
theorem wi_scr {Q : List D → Env2 → GD → Prop} (h : WE X e r G fun x r1 G1 => ∃ ns r2, fz r1 x = some (.scr ns, r2) ∧ Q (ns.map D.int) r2 G1) : WI X tg e r G Q := fun F0 T F H σ lk S =>
  RunI.of (pi_list peR) ((h F0 T F H σ lk S).mono fun v H1 ⟨x, r1, G1, F1, e1, S1, k1, ns, r2, q1, q2⟩ => by
    obtain ⟨Fa, e2, Sa, rp⟩ := S1.fz k1 q1
    obtain ⟨a, rfl, z1⟩ := rp
    refine ⟨a, rfl, ⟨_, Sa.bas.fh.sqL z1⟩, ns.map D.int, r2, G1, Fa, e1.trans e2, Sa, fun F H ea eh => ⟨⟨_, eh.sqL (ea.sqL z1), by rw [List.length_map, List.length_map]; exact Nat.le_refl _⟩, fun i d hi => ?_⟩, q2⟩
    rw [List.getElem?_map] at hi
    cases hn : ns[i]? with
    | none => rw [hn] at hi; cases hi
    | some n =>
      rw [hn] at hi; cases hi
      exact ⟨⟨_, .int n, eh.sqL (ea.sqL z1), by rw [List.getElem?_map, hn]; rfl⟩, fun x H' ⟨y1, y2⟩ => .inl ⟨y1, by
        have := y2 _ (eh.sqL (ea.sqL z1))
        rw [List.getElem?_map, hn] at this; cases this; rfl⟩⟩)
end
instance instRgOk (a b : Int) : Decidable (RgOk a b) := by unfold RgOk; infer_instance
/-- a law: the script in, a truth value out; nothing is said of the open region behind it -/
def FLaw (f : List Int → Out Bool) : FSp := fun ds _ post _ => ∃ ns, ds = [.scr ns] ∧ (f ns).sat (fun v => ∀ G', post (.sh (.bl v)) G') (fun _ => False)
open Out (Rt)
def alB : Nat → D → Bool
  | _, .non => true
  | _, .bl _ => true
  | _, .int _ => true
  | _, .str _ => true
  | n + 1, .tup ds => decide (ds.length ≤ LIM) && ds.all (alB n)
  | n + 1, .lst ds => decide (ds.length ≤ LIM) && ds.all (alB n)
  | _, _ => false
def alikeF (n : Nat) : FSp := fun ds G post _ => ∃ d, ds = [d, d] ∧ alB n d = true ∧ post (.sh (.bl true)) G
open Out (Rt)
structure FlC {α : Type} (en : α → D) (vf : α → V) : Prop where
  rep : ∀ (K : PySem.W.Frag) (F : Hp) (a : α) (v : V), Rep K F (en a) v → v = vf a
  nown : ∀ (K : PySem.W.Frag) (F H : Hp) (p : Addr) (a : α), ¬ Own K F H p (en a)
  flat : ∀ a, flatV (vf a) = true
  eq : ∀ a b, eqV (vf a) (vf b) = true ↔ a = b
section
variable {X : Cy} {α : Type} [DecidableEq α] {en : α → D} {vf : α → V}
theorem FlC.all (h : FlC en vf) {K : PySem.W.Frag} {F : Hp} : ∀ {xs : List α} {vs : List V}, RepL K F (xs.map en) vs → vs = xs.map vf
  | [], _, e => e
  | x :: xs, _, ⟨v, r, e1, e2, e3⟩ => by subst e1; rw [h.rep K F x v e2, h.all e3]; rfl
end
open Out (Rt)
section
variable {X : Cy} {e a b c o tg kx vx elt i : Expr} {es ifs : List Expr} {st : Stmt} {sts rest body orelse : List Stmt} {r : Env2} {G : GD} {pos tpos apos cpos p0 : Pos} {D0 : EndsD} {α β γ σT ρ : Type}
theorem opw_fdivE {Q : Res → Prop} {i j : Int} (hc : 0 < j ∧ j < 2 ^ 200) (q : Q (.sh (.int (i / j)))) : OpW X (binaryOp .FloorDiv) (.int i) (.int j) Q :=
  opw_flat (d := .int (i / j)) (v := .int (i / j)) (fun _ _ => rfl) (fun F H va vb _ h1 h2 => ⟨_, op_fdivW, fun P p => ⟨i, j, h1.int, h2.int, wide_div (b := 200) hc.1 (by have := hc.2; have := hc.1; omega) (by decide) (by decide), p⟩⟩) q
/-- results that are held together -/
def NzL (K : PySem.W.Frag) (T F : Hp) (G : GD) (H : Hp) (r : Env2) (σ : L2.St) : List Res → List V → Prop
  | [], vs => vs = []
  | z :: zs, vs => ∃ v us, vs = v :: us ∧ ResOk K T F G H r σ z v ∧ (∀ i, z ≠ .pk i) ∧ (∀ z2 v2, (z2, v2) ∈ zs.zip us → ∀ d d2, z = .fr d → z2 = .fr d2 → v ≠ v2) ∧ NzL K T F G H r σ zs us
theorem NzL.len {K : PySem.W.Frag} {T F : Hp} {G : GD} {H : Hp} {r : Env2} {σ : L2.St} : ∀ {zs : List Res} {vs : List V}, NzL K T F G H r σ zs vs → vs.length = zs.length
  | [], _, h => by rw [show _ = [] from h]; rfl
  | _ :: _, _, ⟨v, us, e, _, _, _, h⟩ => by rw [e, List.length_cons, List.length_cons, h.len]
theorem NzL.map {K : PySem.W.Frag} {T T' F : Hp} {G : GD} {H : Hp} {r : Env2} {σ : L2.St} (f : ∀ z v, ResOk K T F G H r σ z v → ResOk K T' F G H r σ z v) : ∀ {zs : List Res} {vs : List V}, NzL K T F G H r σ zs vs → NzL K T' F G H r σ zs vs
  | [], _, h => h
  | _ :: _, _, ⟨v, us, e, h1, h2, h3, h⟩ => ⟨v, us, e, f _ _ h1, h2, h3, h.map f⟩
theorem NzL.newH {K : PySem.W.Frag} {T F : Hp} {G : GD} {H : Hp} {r : Env2} {σ : L2.St} {p : Addr} {o : HO} (hp : H p = none) : ∀ {zs : List Res} {vs : List V}, NzL K T F G H r σ zs vs → NzL K T F G (upd H p o) r σ zs vs
  | [], _, h => h
  | _ :: _, _, ⟨v, us, e, h1, h2, h3, h⟩ => ⟨v, us, e, h1.newH hp h2, h2, h3, h.newH hp⟩
theorem NzL.setR {K : PySem.W.Frag} {T F : Hp} {G : GD} {H : Hp} {r : Env2} {σ : L2.St} {z : Res} {v : V} {i : Nat} (hi : i < r.length) (hl : r.length = σ.length) (hz : ∀ i, z ≠ .pk i) : ∀ {zs : List Res} {vs : List V}, (∀ z2 v2, (z2, v2) ∈ zs.zip vs → ∀ d d2, z = .fr d → z2 = .fr d2 → v ≠ v2) → NzL K T F G H r σ zs vs → NzL K T F G H (r.set i (slO z)) (σ.set i (some v)) zs vs
  | [], _, _, h => h
  | z2 :: zs, _, hd, ⟨v2, us, e, h1, h2, h3, h⟩ => by
    subst e
    exact ⟨v2, us, rfl, h1.setR hi hl hz h2 (hd z2 v2 (by simp)), h2, h3, h.setR hi hl hz fun z3 v3 hm => hd z3 v3 (by rw [List.zip_cons_cons]; exact List.mem_cons_of_mem _ hm)⟩
def RunGs (X : Cx) (ts : List Expr) : TGs := fun vs σ H Q => ∀ (pins : List (Addr × Obj)) (s : Shared) (us : List Value), Inv X pins σ H s → Vals vs us → wpAny (model X.prog X.w) X.A (assignInOrder ((assignEach ts X.env).map (·.2)) us) (fun _ s' => ∃ σ' H', Inv X pins σ' H' s' ∧ Q σ' H') X.xe s
theorem pgsR {X : Cx} {ts : List Expr} : PGs X ts (RunGs X ts) := ⟨fun pins s σ H vs us Q I rv h => h pins s us I rv⟩
theorem RunGs.of {X : Cx} {ts : List Expr} {t : TGs} {vs : List V} {σ : L2.St} {H : Hp} {Q : L2.St → Hp → Prop} (h : PGs X ts t) (k : t vs σ H Q) : RunGs X ts vs σ H Q := fun pins s us I rv => h.run pins s σ H vs us Q I rv k
theorem RunG.of {X : Cx} {tg : Expr} {t : TG} {v : V} {σ : L2.St} {H : Hp} {Q : L2.St → Hp → Prop} (h : PG X tg t) (k : t v σ H Q) : RunG X tg v σ H Q := fun pins s u I rv => h.run pins s σ H v u Q I rv k
theorem RunG.mono {X : Cx} {tg : Expr} {v : V} {σ : L2.St} {H : Hp} {Q Q' : L2.St → Hp → Prop} (h : RunG X tg v σ H Q) (k : ∀ σ' H', Q σ' H' → Q' σ' H') : RunG X tg v σ H Q' := fun pins s u I rv => wpAny_mono (h pins s u I rv) (fun _ _ ⟨σ', H', I', q⟩ => ⟨σ', H', I', k σ' H' q⟩) fun _ _ x => x
theorem RunGs.mono {X : Cx} {ts : List Expr} {vs : List V} {σ : L2.St} {H : Hp} {Q Q' : L2.St → Hp → Prop} (h : RunGs X ts vs σ H Q) (k : ∀ σ' H', Q σ' H' → Q' σ' H') : RunGs X ts vs σ H Q' := fun pins s us I rv => wpAny_mono (h pins s us I rv) (fun _ _ ⟨σ', H', I', q⟩ => ⟨σ', H', I', k σ' H' q⟩) fun _ _ x => x
def WGs (X : Cy) (ts : List Expr) (ds : List D) (r : Env2) (G : GD) (is : List Nat) (Q : Env2 → GD → Prop) : Prop :=
  ∀ (F0 T F H : Hp) (σ : L2.St) (vs : List V), Lk X F0 T → Sta X.K F0 T F G H r σ → RepL X.K F ds vs → RunGs X ts vs σ H (fun σ' H' => wipe σ' is = wipe σ is ∧ ∃ r' G' F', Ex F F' ∧ Sta X.K F0 T F' G' H' r' σ' ∧ Q r' G')
theorem wgs_nil {is : List Nat} {Q : Env2 → GD → Prop} (q : Q r G) : WGs X [] [] r G is Q := fun F0 T F H σ vs lk S rp => RunGs.of pgs_nil ⟨rp, rfl, r, G, F, Ex.refl _, S, q⟩
theorem wgs_cons {t : Expr} {ts : List Expr} {d : D} {ds : List D} {is : List Nat} {Q : Env2 → GD → Prop} (h : WG X t d r G is fun r1 G1 => WGs X ts ds r1 G1 is Q)
    (hs : (assignEach (t :: ts) X.env).map (·.2) = assign t X.env :: (assignEach ts X.env).map (·.2) := by rfl) : WGs X (t :: ts) (d :: ds) r G is Q := fun F0 T F H σ vs lk S rp => by
  obtain ⟨v, us, rfl, r1, r2⟩ := rp
  refine RunGs.of (pgs_cons pgR pgsR hs) ⟨v, us, rfl, (h F0 T F H σ v lk S r1).mono fun σ1 H1 ⟨w1, r', G', F1, e1, S1, q1⟩ => ?_⟩
  exact (q1 F0 T F1 H1 σ1 us lk S1 (RepL.mono e1 _ _ r2)).mono fun σ2 H2 ⟨w2, r2, G2, F2, e2, S2, q2⟩ => ⟨w2.trans w1, r2, G2, F2, e1.trans e2, S2, q2⟩
theorem wg_tupN {ts : List Expr} {k : Nat} {ds : List D} {is : List Nat} {Q : Env2 → GD → Prop} (hc : X.calm = true) (h : WGs X ts ds r G is Q)
    (hn : (assignEach ts X.env).length = ds.length := by rfl) (hf : (assignEach ts X.env).findIdx? (·.1) = none := by rfl) : WG X (.Tuple ts k pos) (.tup ds) r G is Q := fun F0 T F H σ v lk S rp => by
  obtain ⟨a, vs, rfl, z1, z2⟩ := rp
  exact RunG.of (pg_tup hc pgsR hn hf) ⟨a, vs, rfl, S.bas.fh.sqT z1, z2.length, h F0 T F H σ vs lk S z2⟩
/-- target = frozen data -/
theorem ws_asgG (is : List Nat) (h : WE X e r G fun x r1 G1 => ∃ d r2, fz r1 x = some (d, r2) ∧ WG X tg d r2 G1 is fun r3 G3 => D0.nx r3 G3)
    (hs : swapsWithSole [tg] e pos.line X.env = pure false := by rfl) (hw : swappedStores [tg] e X.env = pure none := by rfl)
    (h1 : (assignEach [tg] X.env).map (·.2) = [assign tg X.env] := by rfl) : WS X (.Assign [tg] e pos) r G D0 := fun F0 T F H σ lk S =>
  RunS.of (ps_asg peR pgR hs hw h1) ((h F0 T F H σ lk S).mono fun v H1 ⟨x, r1, G1, F1, e1, S1, k1, d, r2, q1, q2⟩ => by
    obtain ⟨F2, e2, S2, rp⟩ := S1.fz k1 q1
    exact (q2 F0 T F2 H1 σ v lk S2 rp).mono fun σ' H' ⟨_, r', G', F', e', S', q'⟩ => ⟨r', G', F', S', q'⟩)
end
open Out (Rt)
section
variable {X : Cy} {e a b c o tg kx vx elt i : Expr} {es ifs : List Expr} {st : Stmt} {sts rest body orelse : List Stmt} {r : Env2} {G : GD} {pos tpos apos cpos p0 : Pos} {D0 : EndsD} {α β γ σT ρ : Type}
instance instRgC (i j c : Int) (n : Nat) : Decidable (RgC i j c n) := by unfold RgC; infer_instance
end
open Out (Rt)
structure OrC {α : Type} (en : α → D) (n : Nat) : Prop where
  eqc : EqC en n
  al : ∀ a b, PySem.W.alike (toP (en a)) (toP (en b)) = true
  nn : ∀ a, toP (en a) ≠ .none
  dp : ∀ a, (toP (en a)).depth ≤ n
section
variable {α β γ : Type}
def ltC (en : α → D) (a b : α) : Bool := PySem.W.dataLt (toP (en a)) (toP (en b))
def leC (en : α → D) (a b : α) : Bool := !ltC en b a
def dsort (en : α → D) (xs : List α) : List α := xs.mergeSort (leC en)
theorem orc_int : OrC eI 0 := ⟨eqc_int, fun _ _ => rfl, (fun _ h => nomatch h), fun a => (by show PyData.depth (toP (eI a)) ≤ 0; simp [toP, PyData.depth])⟩
end
section
variable {X : Cy} {α : Type} {en : α → D} {n : Nat} {Q : Res → Prop}
theorem OrC.dpv (h : OrC en n) {K : PySem.W.Frag} {F H : Hp} (ex : Ex F H) {a : α} {v : V} (hv : Vw K F H (en a) v) : Dp K H v (toP (en a)) := okD.dp ex n _ _ (h.eqc.ok a) hv
end
section
variable {α : Type}
theorem each_of {β : Type} {P : V → β → Prop} : ∀ {xs : List V} {us : List Value} {bs : List β}, Vals xs us → Paired P xs bs → PySem.W.EachIs (fun u b => ∃ x, RelV x u ∧ P x b) us bs
  | _, _, _, .nil, .nil => .nil
  | _, _, _, .cons r rs, .cons p ps => .cons ⟨_, r, p⟩ (each_of rs ps)
theorem of_each {β : Type} {P : V → β → Prop} : ∀ {us : List Value} {bs : List β}, PySem.W.EachIs (fun u b => ∃ x, RelV x u ∧ P x b) us bs → ∃ xs, Vals xs us ∧ Paired P xs bs
  | _, _, .nil => ⟨[], .nil, .nil⟩
  | _, _, .cons ⟨x, r, p⟩ t => by
    obtain ⟨xs, h1, h2⟩ := of_each t
    exact ⟨x :: xs, .cons r h1, .cons p h2⟩
end
open Out (Rt)
section
variable {X : Cy} {α : Type} {en : α → D} {n : Nat} {Q : Res → Prop}
theorem repl_paired {K : PySem.W.Frag} {F : Hp} : ∀ {xs : List α} {vs : List V}, RepL K F (xs.map en) vs → Paired (fun v a => Rep K F (en a) v) vs xs
  | [], _, h => by rw [show _ = [] from h]; exact .nil
  | x :: xs, _, ⟨v0, vs', e, h1, h2⟩ => by subst e; exact .cons h1 (repl_paired h2)
theorem paired_repl {K : PySem.W.Frag} {F : Hp} : ∀ {xs : List α} {vs : List V}, Paired (fun v a => Rep K F (en a) v) vs xs → RepL K F (xs.map en) vs
  | [], _, .nil => rfl
  | x :: xs, _, .cons h t => ⟨_, _, rfl, h, paired_repl t⟩
theorem leC_data : PySem.W.dataLe false (fun a : α => toP (en a)) = leC en := by
  funext a b
  rw [PySem.W.dataLe_eq]
  rfl
end
open Out (Rt)
open Out (Rt)
abbrev Bh := { x : List Int × Int × Int // x.1.length ≤ 63 }
def bxH (G0 : GD) (b g : Addr) (x : Bh) : GD := updG (updG G0 g (.lst (x.1.1.map D.int))) b (.lst [.int x.1.2.1, .adr g, .int x.1.2.2])
def FBh {A R : Type} (en : A → List D) (er : R → Res) (f : A → Bh → Out (R × Bh)) : FSp := fun ds G post _ => ∃ (a : A) (G0 : GD) (b g : Addr) (x : Bh), g ≠ b ∧ ds = .adr b :: en a ∧ G = bxH G0 b g x ∧ (f a x).sat (fun v => post (er v.1) (bxH G0 b g v.2)) (fun _ => False)
theorem bxH_b {G0 : GD} {b g : Addr} {x : Bh} : bxH G0 b g x b = some (.lst [.int x.1.2.1, .adr g, .int x.1.2.2]) := updG_same
theorem bxH_g {G0 : GD} {b g : Addr} {x : Bh} (h : g ≠ b) : bxH G0 b g x g = some (.lst (x.1.1.map D.int)) := by unfold bxH; rw [updG_ne h, updG_same]
theorem bxH_setB {G0 : GD} {b g : Addr} {x : Bh} {st ix : Int} : updG (bxH G0 b g x) b (.lst [.int st, .adr g, .int ix]) = bxH G0 b g ⟨(x.1.1, st, ix), x.2⟩ := by
  unfold bxH
  funext a
  by_cases h : a = b
  · subst h; rw [updG_same, updG_same]
  · rw [updG_ne h, updG_ne h, updG_ne h]
theorem bxH_setG {G0 : GD} {b g : Addr} {x : Bh} {ns : List Int} (hl : ns.length ≤ 63) (h : g ≠ b) : updG (bxH G0 b g x) g (.lst (ns.map D.int)) = bxH G0 b g ⟨(ns, x.1.2), hl⟩ := by
  unfold bxH
  funext a
  by_cases h1 : a = g
  · subst h1; rw [updG_same, updG_ne h, updG_same]
  · rw [updG_ne h1]
    by_cases h2 : a = b
    · subst h2; rw [updG_same, updG_same]
    · rw [updG_ne h2, updG_ne h1, updG_ne h2, updG_ne h1]
/-- the def that makes it -/
def FMix (m : (ns : List Int) → ns.length ≤ 63 → Int → Bh) : FSp := fun ds G post _ => ∃ (ns : List Int) (seed : Int) (h : ns.length ≤ 63), ds = [.scr ns, .int seed] ∧ ∀ b g, g ≠ b → G b = none → G g = none → post (.sh (.adr b)) (bxH G b g (m ns h seed))
open Out (Rt)
section
variable {X : Cy} {e a b c o tg kx vx elt : Expr} {es ifs : List Expr} {st : Stmt} {sts rest body orelse : List Stmt} {r : Env2} {G : GD} {pos tpos apos cpos p0 : Pos} {D0 : EndsD} {α β γ σT ρ : Type}
/-- isinstance(x, (S, T)) of two built-in classes -/
theorem we_isiT {x y z : Str} {n m : String} {py pz pt : Pos} {kx} {Q : Res → Env2 → GD → Prop} (hg : Gl X x) (hm : X.mg x = none) (hv : bootBuiltins x = some (.builtin "isinstance")) (hg2 : Gl X y) (hm2 : X.mg y = none) (hv2 : bootBuiltins y = some (.type n)) (hg3 : Gl X z) (hm3 : X.mg z = none) (hv3 : bootBuiltins z = some (.type m))
    (h : WE X a r G fun q r1 G1 => ∃ d t c, q = .sh d ∧ tyD d = some t ∧ PySem.W.kitAny X.K t [.type n, .type m] = some c ∧ Q (.sh (.bl c)) r1 G1)
    (hn : x ≠ "__name__" := by decide) (hdb : (x == ("__debug__" : Str)) = false := by decide) (hn2 : y ≠ "__name__" := by decide) (hdb2 : (y == ("__debug__" : Str)) = false := by decide) (hn3 : z ≠ "__name__" := by decide) (hdb3 : (z == ("__debug__" : Str)) = false := by decide)
    (he : starEach [a, .Tuple [.Name y py, .Name z pz] kx pt] X.env = (false, eval a X.env) :: starEach [.Tuple [.Name y py, .Name z pz] kx pt] X.env := by rfl) (he2 : starEach [.Tuple [.Name y py, .Name z pz] kx pt] X.env = (false, eval (.Tuple [.Name y py, .Name z pz] kx pt) X.env) :: starEach [] X.env := by rfl)
    (he3 : starEach [.Name y py, .Name z pz] X.env = (false, eval (.Name y py) X.env) :: starEach [.Name z pz] X.env := by rfl) (he4 : starEach [.Name z pz] X.env = (false, eval (.Name z pz) X.env) :: starEach [] X.env := by rfl)
    (hpl : (backTo pos (starEach [.Tuple [.Name y py, .Name z pz] kx pt] X.env)).any (·.1) = false := by rfl) :
    WE X (.Call (.Name x p0) [a, .Tuple [.Name y py, .Name z pz] kx pt] [] pos) r G Q := fun F0 T F H σ lk S =>
  Run.of (pe_callB call_isiT hg hm hv (pa_cons peR (pa_cons (pe_tup (pa_cons (pe_bltn (v := .ty n) hg2 hm2 hv2 rfl hn2 hdb2) (pa_cons (pe_bltn (v := .ty m) hg3 hm3 hv3 rfl hn3 hdb3) pa_nil he4) he3)) pa_nil he2) he) hn hdb he hpl) ((h F0 T F H σ lk S).mono fun v H1 ⟨q, r1, G1, F1, e1, S1, k1, d, t, c, q1, q2, q3, q4⟩ => by
    subst q1
    refine ⟨by rw [sizeLine_eq]; show 2 ≤ 16777216; decide, fun p hp => ?_⟩
    have ef : Ex F1 (upd F1 p (.tup [.ty n, .ty m])) := Ex.new (S1.bas.freshF hp).1
    have S2 := S1.newF (o := .tup [.ty n, .ty m]) hp
    exact ⟨v, p, [.ty n, .ty m], t, [.type n, .type m], c, rfl, upd_same, .cons (.ty n) (.cons (.ty m) .nil), tyX_of S2.bas.fh (S2.viewR (x := .sh d) (Rep.mono ef _ _ k1) (.inl rfl)) q2, q3, .sh (.bl c), r1, G1, _, e1.trans ef, S2, rfl, q4⟩)
end
/-- the box, made of any script -/
def mixT (m : (ns : List Int) → ns.length ≤ 63 → Int → Bh) (ns : List Int) (seed : Int) : Bh := if h : ns.length ≤ 63 then m ns h seed else ⟨([], 0, 0), by simp⟩
theorem mixT_pos {m : (ns : List Int) → ns.length ≤ 63 → Int → Bh} {ns : List Int} {seed : Int} (h : ns.length ≤ 63) : mixT m ns seed = m ns h seed := by unfold mixT; rw [dif_pos h]
open Out (Rt)
section
variable {P : Program} {w : World} {A : Around} {E : Value → Shared → Prop} {s : Shared}
/-- the object of set() -/
abbrev newS (w : World) : Obj := { cls := .type "set", dict := none, data := .set #[] 0 (.fresh 0 0 (!w.params.followText "set-order")) }
/-- what set(xs) leaves -/
def SetMade (w : World) (s : Shared) (ns : List Int) (s2 : Shared) : Prop := ∃ (h' : Heap) (tk c : Nat), s2 = { s with heap := h', toks := tk } ∧ SetR w h' s.heap.objs.size (fun j => decide (j ∈ ns)) c ∧ c ≤ ns.length ∧ ∀ b o, s.heap.get? b = some o → h'.get? b = some o
theorem set_of_list {l : Addr} {items : Array Value} (ns : List Int) {Q : Value → Shared → Prop} (hh : A.handled = none) (hl : s.heap.IsList l items) (hit : IntsAre items.toList ns) (hb : ns.length + 1 < scanBound)
    (h : ∀ s2, SetMade w s ns s2 → Q (.ref s.heap.objs.size) s2) : wpAny (model P w) A (call (.type "set") [.ref l]) Q E s := by
  have hisz : items.size = ns.length := (Array.length_toList).symm.trans (IntsAre.length hit)
  have hval : ∀ (i : Nat) (v : Value), items[i]? = some v → ∃ k t, ns[i]? = some k ∧ v = .int k t := fun i v hv => by
    obtain ⟨t, e⟩ := PyProof.Rows.IntsAre.int_at hit i v (by rw [Array.getElem?_toList]; exact hv)
    have hi : i < ns.length := hisz ▸ (Array.getElem?_eq_some_iff.mp hv).1
    rw [List.getD_eq_getElem?_getD, List.getElem?_eq_getElem hi] at e
    exact ⟨ns[i], t, List.getElem?_eq_getElem hi, e⟩
  obtain ⟨_, _, hmro⟩ := F.called_set.mro
  have hmade := F.called_set.made
  have hsub := F.called_set.sub
  have hno := F.called_set.notType
  have hcan := F.called_set.canCreate
  have hct := F.typeCall_set_1 (.ref l)
  refine wpAny_call (codeAny_of_tree ?_)
  show wpAny _ _ (callAny (.type "set") _) _ _ _
  refine wpAny_pure ⟨Code.quiet_builtin _ (by decide +kernel), codeAny_builtin F.entry_type_call ?_⟩
  rw [Around.under_plain (weight_type_call_type "set" [.ref l] []) rfl]
  repeat (any_goals (first | assumption | wp_step))
  refine codeAny_mono (code_set_led1 (.ref l) (E := E) (Q₁ := fun x s1 => x = .ref s.heap.objs.size ∧ s1 = { s with heap := s.heap.push (newS w) }) ⟨rfl, rfl⟩) fun r s1 hr => ?_
  match r, hr with
  | .error e, hr => exact hr
  | .ok (.ret x), ⟨hx, hs1⟩ =>
    subst hx hs1
    have hS : (s.heap.push (newS w)).get? s.heap.objs.size = some (newS w) := Heap.get?_push_size _ rfl
    have hT : Shared.TypeIs { s with heap := s.heap.push (newS w) } (.ref s.heap.objs.size) "set" := ⟨_, hS, rfl⟩
    have hli := F.called_set.init.lookup
    have hbi := F.called_set.init.bind (.ref s.heap.objs.size)
    repeat (any_goals (first | assumption | wp_step))
    refine codeAny_mono (codeAny_call_builtin (R := wants (fun x s2 => x = .none ∧ SetMade w s ns s2) E) F.called_set.init.plain F.entry_set_init (check_set_init_1 hT ?_)) fun r2 s2 hr2 => ?_
    · obtain ⟨⟨oc, od, odt, osl⟩, hol, hcl, nl, hdl⟩ := hl
      dsimp only at hcl hdl
      subst hcl hdl
      have hol' : (s.heap.push (newS w)).get? l = some { cls := .type "list", dict := od, data := .seq items nl, slots := osl } := Heap.get?_push_of_some _ hol
      have hl1 : (s.heap.push (newS w)).IsList l items := ⟨_, hol', rfl, nl, rfl⟩
      have hlS : l < s.heap.objs.size := Heap.lt_size hol
      have hz : (s.heap.push (newS w)).objs.size = s.heap.objs.size + 1 := Heap.size_push ..
      have hsls := F.sub_list_set
      have hslf := F.sub_list_frozenset
      have hne : (Value.type "list" == Value.type "dict") = false := by decide
      unfold Builtin.«set.__init__» noKeywords Builtin.Frozenset.updateFrom
      generalize hPI : pyIter = PI
      wp_walk
      subst hPI
      refine wpAny_pyIter_list hl1 (wpAny_bind (wpAny_runValue ?_))
      refine set_update_ints ((Walks.list (show A.in1.in1.in1.handled = none by simp [hh]) _ l (by rw [hz]; exact Nat.ne_of_lt (Nat.lt_succ_of_lt hlS)) items).toS) s.heap.objs.size (by rw [hz]; simp only [List.mem_cons, List.not_mem_nil, or_false, not_or]; exact ⟨Nat.ne_of_lt (Nat.lt_succ_self _), Nat.ne_of_gt hlS⟩) ns hisz hb hval (items.size - 0) 0 _ (by omega) (Nat.zero_le _)
        ⟨⟨_, Heap.get?_push_size _ rfl, rfl, rfl⟩, (hl1.push _)⟩ ⟨0, Nat.le_refl 0, setR_new_at (Heap.get?_push_of_some _ hS)⟩ fun s' c' hm hc' hS' => ?_
      obtain ⟨h', g', d', tk', os'⟩ := s'
      cases (show g' = s.gens from hm.gens)
      cases (show d' = s.drawn from hm.drawn)
      cases (show os' = s.os from hm.os)
      show wpAny _ _ _ _ _ _
      refine wpAny_pure ?_
      show wpAny _ _ (ret Value.none) _ _ _
      refine wpAny_pure ⟨rfl, h', tk', c', rfl, hS', hisz ▸ hc', fun b o e => ?_⟩
      have hb0 : b < s.heap.objs.size := Heap.lt_size e
      exact hm.heap b o (by rw [hz]; simp only [List.mem_cons, List.not_mem_nil, or_false, not_or]; exact ⟨Nat.ne_of_lt hb0, Nat.ne_of_lt (Nat.lt_succ_of_lt hb0)⟩) (Heap.get?_push_of_some _ (Heap.get?_push_of_some _ e))
    · match r2, hr2 with
      | .error e, hr2 => exact hr2
      | .ok (.ret _), ⟨hx, hm⟩ =>
        subst hx
        repeat (any_goals (first | assumption | wp_step))
        exact h _ hm
/-- sorted(found), of any number of members -/
theorem sorted_setB {a : Addr} {S : Int → Bool} {n : Nat} {Q : Value → Shared → Prop} (R : SetR w s.heap a S n) (hh : A.handled = none)
    (hQ : ∀ s' p (out : Array Value) (c : Nat) (ns : List Int), (∀ b o, s.heap.get? b = some o → s'.heap.get? b = some o) → s'.gens = s.gens → s'.os = s.os → s.heap.objs.size ≤ p →
      s'.heap.get? p = some (seqObj "list" out c) → IntsAre out.toList ns → ns.Pairwise (· < ·) → (∀ k, k ∈ ns ↔ S k = true) → ns.length = n → Q (.ref p) s') :
    wpAny (model P w) A (call (.builtin "sorted") [.ref a]) Q E s := by
  obtain ⟨o, es, ep, t, ho, hex, hd, g, nd, hm, hb, hf, hn, hr, hl⟩ := R
  have hsz : es.size ≤ sizeLine := by rw [sizeLine_eq]; unfold scanBound at hb; omega
  refine Calls.call_function_entry kind_sorted plain_sorted entry_sorted (args_sorted1 _) ?_
  unfold Builtin.«sorted»
  refine wpAny_bind (m := checkCount "sorted" 1 1 _) (wpAny_pure (wpAny_bind (collect_set (A := A.in1) hh ⟨o, ho, hex.1, hd⟩ hf hb hr hl fun s1 vs k1 hz g1 o1 pm => ?_)))
  have hvl : vs.length = es.size := by rw [pm.length_eq, List.length_map, Array.length_toList]
  have hI : IntsAre vs (vs.map Builtin.Re.reRawOf) := ints_of vs fun v hv => by
    obtain ⟨e, he, q⟩ := List.mem_map.mp (pm.mem_iff.mp hv)
    obtain ⟨k, tk, h1, _⟩ := g e he
    exact ⟨k, tk, q ▸ h1⟩
  have hoL : (s1.heap.push (seqObj "list" vs.toArray 0)).get? s1.heap.objs.size = some (seqObj "list" vs.toArray 0) := Heap.get?_push_size _ rfl
  refine wpAny_bind (wpAny_newList ?_ (by rw [hvl]; exact hsz))
  refine wpAny_bind (wpAny_holding (wpAny_call_entry slot_list_sort ⟨_, hoL, rfl⟩ entry_list_sort (list_sort_treeAny hoL hI (by rw [hvl]; exact hsz) fun out ns' a1 a2 a3 => ⟨_, rfl, ?_⟩) (args_list_sort _)))
  obtain ⟨c, hc⟩ := sortedHeap_at (vs := vs) (out := out) hoL
  have pn : ns'.Perm (es.toList.map keyOf) := a2.trans (by have q := pm.map Builtin.Re.reRawOf; rw [List.map_map] at q; exact q)
  refine wpAny_pure ⟨_, rfl, hQ _ s1.heap.objs.size out c ns' (fun b u e => ?_) g1 o1 hz hc a1 (lt_of_le_nodup ns' a3 (pn.nodup_iff.mpr nd)) (fun k => by rw [pn.mem_iff, ← hm k]) (by rw [pn.length_eq, List.length_map, Array.length_toList]; exact hn)⟩
  have hlt := Heap.lt_size (k1 b u e)
  show (sortedHeap (s1.heap.push (seqObj "list" vs.toArray 0)) s1.heap.objs.size vs out).get? b = some u
  rw [sortedHeap_old (Nat.ne_of_lt hlt) (by rw [Heap.size_push]; exact Nat.lt_succ_of_lt hlt)]
  exact Heap.get?_push_of_some _ (k1 b u e)
end
section
variable {X : Cx}
/-- set(xs) -/
def rSetL (K : PySem.W.Frag) (w : World) : List V → Hp → VK → Prop := fun xs H Q => ∃ (l : Addr) (ns : List Int), xs = [.ref l] ∧ SqL K H l (ns.map V.int) ∧ ns.length ≤ 1000 ∧ ∀ p c, H p = none → c ≤ ns.length → Q (.ref p) (upd H p (SetO w p (fun j => decide (j ∈ ns)) c))
theorem cr_setL (hc : X.calm = true) : CallR X (.type "set") (rSetL X.K X.w) := by
  intro pins s σ H xs us Q I r h
  obtain ⟨l, ns, rfl, hS, hn, q⟩ := h
  rw [Vals.ref1 r]
  obtain ⟨its, rv, ⟨o, m, ho, hcl, hd, hdt⟩, _⟩ := I.list hS
  refine set_of_list (items := its.toArray) ns (I.ok.hd hc) ⟨o, ho, hcl, m, hdt⟩ (ints_of_vals rv) (by unfold scanBound; omega) fun s2 ⟨h', tk, c, e, R, hcn, k⟩ => ?_
  subst e
  exact ⟨.ref _, upd H s.heap.objs.size (SetO X.w s.heap.objs.size (fun j => decide (j ∈ ns)) c), I.laid (t' := tk) k (Nat.le_refl _) (setO_new R), rfl, q _ _ (I.hok.fresh (Nat.le_refl _)) hcn⟩
/-- sorted(found) -/
def rSortB (w : World) : List V → Hp → VK → Prop := fun vs H Q => ∃ (a : Addr) (S : Int → Bool) (n : Nat), vs = [V.ref a] ∧ H a = some (SetO w a S n) ∧ n ≤ 1000 ∧
  ∀ (ns : List Int) (p : Addr), ns.Pairwise (· < ·) → (∀ k : Int, k ∈ ns ↔ S k = true) → H p = none → Q (.ref p) (upd H p (.lst (ns.map V.int)))
theorem cr_sortB (hc : X.calm = true) : CallR X (.builtin "sorted") (rSortB X.w) := by
  intro pins s σ H vs us Q I r h
  obtain ⟨a, S, n, rfl, ha, hn, q⟩ := h
  rw [Vals.ref1 r]
  refine sorted_setB (setO_get I ha) (I.ok.hd hc) fun s' p out c ns k g o hp hg hi hs hm hl => ?_
  have hlen : (ns.map V.int).length ≤ sizeLine := by rw [List.length_map, hl, sizeLine_eq]; omega
  have hf : H p = none := I.hok.fresh hp
  have J : Inv X pins σ (upd H p (.lst (ns.map V.int))) { s with heap := s'.heap, gens := s'.gens, drawn := s'.drawn, toks := s'.toks } :=
    I.call (ch := []) (Un.laid k hp hf) (I.hok.laid k hp ⟨hlen, out.toList, c, vals_of_ints hi, hg⟩) (by rw [g]; exact I.bare) (fun _ z => nomatch z)
  have e : s' = { s with heap := s'.heap, gens := s'.gens, drawn := s'.drawn, toks := s'.toks } := by cases s'; cases s; cases o; rfl
  rw [e]
  exact ⟨.ref p, _, J, rfl, q ns p hs hm hf⟩
end
section
variable {X : Cy} {e a b c o tg kx vx elt : Expr} {r : Env2} {G : GD} {pos p0 p1 p2 : Pos}
/-- the different ints, ascending -/
def uniq (ns : List Int) : List Int := isort ((dmk (ns.map fun x => (x, true))).map (·.1))
theorem we_sortSet {Q : Res → Env2 → GD → Prop} (hcalm : X.calm = true) (hg : Gl X "sorted") (hm : X.mg "sorted" = none) (hg2 : Gl X "set") (hm2 : X.mg "set" = none)
    (h : WE X a r G fun x r1 G1 => ∃ ns : List Int, VwR r1 G1 x (.lst (ns.map D.int)) ∧ ns.length ≤ 1000 ∧ ∀ out : List Int, out.Pairwise (· < ·) → (∀ k, k ∈ out ↔ k ∈ ns) → Q (.fr (.lst (out.map D.int))) r1 G1)
    (he : starEach [.Call (.Name "set" p1) [a] [] p2] X.env = (false, eval (.Call (.Name "set" p1) [a] [] p2) X.env) :: starEach [] X.env := by rfl) (hpl : (backTo pos (starEach [] X.env)).any (·.1) = false := by rfl)
    (he2 : starEach [a] X.env = (false, eval a X.env) :: starEach [] X.env := by rfl) (hpl2 : (backTo p2 (starEach [] X.env)).any (·.1) = false := by rfl) :
    WE X (.Call (.Name "sorted" p0) [.Call (.Name "set" p1) [a] [] p2] [] pos) r G Q := fun F0 T F H σ lk S =>
  Run.of (pe_callB (cr_sortB hcalm) hg hm (by rfl) (pa_cons (pe_callTy (cr_setL hcalm) hg2 hm2 (by rfl) (pa_cons peR pa_nil he2) (by decide) (by decide) he2 hpl2) pa_nil he) (by decide) (by decide) he hpl) ((h F0 T F H σ lk S).mono fun v H1 ⟨x, r1, G1, F1, e1, S1, k1, ns, q1, q2, q3⟩ => by
    obtain ⟨l, vs, rfl, hl, hvs⟩ := (S1.viewR k1 q1).lst S1.bas.fh
    cases hvs.ints
    refine ⟨l, ns, rfl, .inl hl, q2, fun p c hp hcn => ?_⟩
    have S2 := S1.newH (o := SetO X.w p (fun j => decide (j ∈ ns)) c) hp
    refine ⟨p, _, c, rfl, upd_same, by omega, fun out p' h1 h2 hp' => ?_⟩
    obtain ⟨f1, f2, f3⟩ := S2.bas.freshF hp'
    exact ⟨.fr (.lst (out.map D.int)), r1, G1, F1, e1, S2.newH hp', ⟨p', rfl, ⟨out.map V.int, upd_same, ints_rep out⟩, f1, f2, f3, S2.freshR hp'⟩, q3 out h1 fun k => by rw [h2, decide_eq_true_eq]⟩)
end
open Out (Rt)
structure Hold (p : Prop) : Prop where
  h : p
/-- a table grows by a code object -/
theorem Sta.tab {K : PySem.W.Frag} {F0 T F : Hp} {G : GD} {H : Hp} {r : Env2} {σ : L2.St} {P c : Addr} {q : Str} {ps more : Array Value} (S : Sta K F0 T F G H r σ) (hG : G P = some (.tab q)) (hc : H c = none)
    (ht : TriplesOk (ps ++ more).toList) (ha : ∀ (pos : Pos) (cv : Value), codeAmong pos (ps ++ more).toList = some cv → (∃ c0, cv = .ref c0 ∧ F c0 = some (LamX.CodeO c0 q)) ∨ cv = .ref c) :
    Sta K F0 T (upd F c (LamX.CodeO c q)) G (upd (upd H P (.tbl (ps ++ more))) c (LamX.CodeO c q)) r σ := by
  obtain ⟨fc, gc, tc⟩ := S.bas.freshF hc
  have fP := S.bas.fg _ _ hG
  have tP := S.bas.gt _ _ hG
  have hPc : P ≠ c := fun z => by subst z; obtain ⟨o, ho⟩ := S.bas.gh' hG; rw [hc] at ho; cases ho
  have ef : Ex F (upd F c (LamX.CodeO c q)) := Ex.new fc
  have at_ : ∀ a, a ≠ P → a ≠ c → upd (upd H P (.tbl (ps ++ more))) c (LamX.CodeO c q) a = H a := fun a h1 h2 => by rw [upd_ne h2, upd_ne h1]
  refine S.grow (G' := G) ⟨S.bas.ff.trans ef, fun a o h => ?_, fun a o h => ?_, fun a d h => ?_, fun a o h => ?_, S.bas.gt, fun a o h => ?_⟩ ef fun p h1 h2 h3 ⟨u, hu⟩ => ?_
  · by_cases e : a = c
    · subst e; exact .inr tc
    · rw [upd_ne e] at h; exact S.bas.ft a o h
  · by_cases e : a = c
    · subst e; rw [upd_same] at h ⊢; exact h
    · rw [upd_ne e] at h ⊢
      have eP : a ≠ P := fun z => by subst z; rw [fP] at h; cases h
      rw [upd_ne eP]; exact S.bas.fh a o h
  · by_cases e : a = P
    · subst e
      rw [hG] at h; cases h
      exact ⟨_, by rw [upd_ne hPc, upd_same], ht, fun pos cv hcv => by
        rcases ha pos cv hcv with ⟨c0, e1, e2⟩ | e1
        · exact ⟨c0, e1, ef _ _ e2⟩
        · exact ⟨c, e1, upd_same⟩⟩
    · have ec : a ≠ c := fun z => by subst z; rw [gc] at h; cases h
      exact (S.bas.gh a d h).mono ef fun o ho => by rw [at_ a e ec]; exact ho
  · have ec : a ≠ c := fun z => by subst z; rw [gc] at h; cases h
    rw [upd_ne ec]; exact S.bas.fg a o h
  · have ec : a ≠ c := ne_of_none h tc
    have eP : a ≠ P := ne_of_none h tP
    rw [at_ a eP ec]; exact S.bas.tk a o h
  · have ec : p ≠ c := fun z => by subst z; rw [hc] at hu; cases hu
    have eP : p ≠ P := fun z => by subst z; rw [h2] at hG; cases hG
    exact ⟨fun o ho => by rw [at_ p eP ec]; exact ho, by rw [upd_ne ec]; exact h1, h2, h3⟩
section
variable {Z : Cx} {x0 : Exn} {a0 : Addr} {Y : Cy} {oe : Obj} {pn : List (Addr × Obj)} {d : Option Addr} {F1 T1 : Hp} {r : Env2} {G : GD} {a : Expr} {pos p0 : Pos}
theorem ExOk.dict {K : PySem.W.Frag} {F H : Hp} {cls : Value} {d : Option Addr} {x : Exn} (h : ExOk K F cls d x) (e : Ex F H) : d = none ∨ ∃ dd fs, d = some dd ∧ H dd = some (.xd fs) := by
  obtain ⟨_, ⟨h2, h3⟩ | ⟨a, vs, h2, h3, h4⟩⟩ := h
  · exact .inl h2
  · exact .inr ⟨a, _, h2, e _ _ h3⟩
end
open Out (Rt)
open Out (Rt)
open Out (Rt)
open Out (Rt)
/-- its names: parameters that no slot bears, captured ones, globals -/
structure LamD (N : List Str) (sc scope : Scope) (a : Str) : Prop where
  kind : scope.kind = .function
  co : scope.isCoroutine = false
  gen : scope.isGenerator = false
  nocell : ∀ y ∈ scope.names, y.2 ≠ .cell
  own : ∀ y ∈ scope.names, y.2 = .local → y.1 ∉ N
  free : ∀ y ∈ scope.names, y.2 = .free → sc.names.lookup y.1 = some .cell ∨ sc.names.lookup y.1 = some .free
  par : scope.names.lookup a = some .local
theorem LamD.has {X : Cx} {scope : Scope} {a : Str} (L : LamD X.N X.env.scope scope a) (ok : X.Ok) : ∀ y ∈ scope.names, y.2 = .free → ∃ c, X.env.cells.lookup y.1 = some c := fun y hy e => ok.has y.1 (L.free y hy e)
mutual
def nkB : PyData → Bool
  | .int _ => true
  | .bool _ => true
  | .str _ => true
  | .tuple ds => nkBs ds
  | .none => true
  | _ => false
def nkBs : List PyData → Bool
  | [] => true
  | d :: ds => nkB d && nkBs ds
end
/-- a key that is there, or a new one -/
def putN (xs : List KdE) (k : NestedKey) (p : Addr) (v : V) : List KdE := if (xs.any fun x => decide (x.1 = k)) = true then xs.map (fun x => if x.1 = k then (x.1, x.2.1, v) else x) else xs ++ [(k, p, v)]
def valN (xs : List KdE) (k : NestedKey) : Option V := (xs.find? fun x => decide (x.1 = k)).map (·.2.2)
def KRep (K : PySem.W.Frag) (F : Hp) : List (D × D) → List KdE → Prop
  | [], us => us = []
  | p :: acc, us => ∃ u us', us = u :: us' ∧ u.1 = nkD p.1 ∧ Rep K F p.1 (.ref u.2.1) ∧ Rep K F p.2 u.2.2 ∧ KRep K F acc us'
def kdD (w : World) (acc : List (D × D)) : D := .kd w (acc.map (·.1)) (acc.map (·.2))
structure KyD (d : D) : Prop where
  ok : ∃ n, okD n d
  nb : nkB (toP d) = true
  dp : (nkD d).depth ≤ 8
section
variable {K : PySem.W.Frag} {F F' H : Hp} {w : World}
theorem KRep.mono (e : Ex F F') : ∀ {acc : List (D × D)} {us : List KdE}, KRep K F acc us → KRep K F' acc us
  | [], _, h => h
  | p :: acc, _, ⟨u, us', h1, h2, h3, h4, h5⟩ => ⟨u, us', h1, h2, Rep.mono e _ _ h3, Rep.mono e _ _ h4, h5.mono e⟩
theorem KRep.length : ∀ {acc : List (D × D)} {us : List KdE}, KRep K F acc us → us.length = acc.length
  | [], _, h => by rw [show _ = [] from h]; rfl
  | p :: acc, _, ⟨u, us', h1, _, _, _, h5⟩ => by rw [h1, List.length_cons, List.length_cons, h5.length]
theorem KRep.own : ∀ {acc : List (D × D)} {us : List KdE}, KRep K F acc us → us.map (·.1) = nkDs (acc.map (·.1)) ∧ RepL K F (acc.map (·.1)) (us.map fun e => .ref e.2.1) ∧ RepL K F (acc.map (·.2)) (us.map (·.2.2))
  | [], _, h => by rw [show _ = [] from h]; exact ⟨rfl, rfl, rfl⟩
  | p :: acc, _, ⟨u, us', h1, h2, h3, h4, h5⟩ => by
    subst h1
    obtain ⟨z1, z2, z3⟩ := h5.own
    refine ⟨?_, ⟨_, _, rfl, h3, z2⟩, ⟨_, _, rfl, h4, z3⟩⟩
    show u.1 :: us'.map (·.1) = nkD p.1 :: nkDs (acc.map (·.1))
    rw [h2, z1]
theorem KRep.of : ∀ {acc : List (D × D)} {us : List KdE}, us.map (·.1) = nkDs (acc.map (·.1)) → RepL K F (acc.map (·.1)) (us.map fun e => .ref e.2.1) → RepL K F (acc.map (·.2)) (us.map (·.2.2)) → KRep K F acc us
  | [], us, h, _, _ => by cases us with | nil => rfl | cons u us => cases h
  | p :: acc, us, h, h2, h3 => by
    cases us with
    | nil => cases h
    | cons u us =>
      have h' : u.1 :: us.map (·.1) = nkD p.1 :: nkDs (acc.map (·.1)) := h
      injection h' with e1 e2
      obtain ⟨v, r, z1, z2, z3⟩ := h2
      obtain ⟨v', r', y1, y2, y3⟩ := h3
      injection z1 with z4 z5
      injection y1 with y4 y5
      subst z4 z5 y4 y5
      exact ⟨u, us, rfl, e1, z2, y2, KRep.of e2 z3 y3⟩
theorem own_kdD {p : Addr} {acc : List (D × D)} {us : List KdE} (h : KRep K F acc us) (hp : H p = some (KdO w p us)) : Own K F H p (kdD w acc) := by
  obtain ⟨z1, z2, z3⟩ := h.own
  exact ⟨us, hp, z1, z2, z3⟩
end
def putKD (acc : List (D × D)) (k d : D) : List (D × D) := if (acc.any fun kv => decide (nkD kv.1 = nkD k)) = true then acc.map (fun kv => if nkD kv.1 = nkD k then (kv.1, d) else kv) else acc ++ [(k, d)]
def valKD (acc : List (D × D)) (k : D) : Option D := (acc.find? fun kv => decide (nkD kv.1 = nkD k)).map (·.2)
section
variable {K : PySem.W.Frag} {F F' H : Hp} {w : World} {k d : D} {p : Addr} {v : V}
theorem KRep.any (k : D) : ∀ {acc : List (D × D)} {us : List KdE}, KRep K F acc us → (us.any fun x => decide (x.1 = nkD k)) = acc.any fun kv => decide (nkD kv.1 = nkD k)
  | [], _, h => by rw [show _ = [] from h]; rfl
  | q :: acc, _, ⟨u, us', h1, h2, _, _, h5⟩ => by subst h1; rw [List.any_cons, List.any_cons, h5.any k, h2]
theorem KRep.over (hv : Rep K F d v) : ∀ {acc : List (D × D)} {us : List KdE}, KRep K F acc us → KRep K F (acc.map fun kv => if nkD kv.1 = nkD k then (kv.1, d) else kv) (us.map fun x => if x.1 = nkD k then (x.1, x.2.1, v) else x)
  | [], _, h => by rw [show _ = [] from h]; rfl
  | q :: acc, _, ⟨u, us', h1, h2, h3, h4, h5⟩ => by
    subst h1
    refine ⟨_, _, List.map_cons, ?_, ?_, ?_, h5.over hv⟩ <;> dsimp only <;> rw [h2] <;> by_cases z : nkD q.1 = nkD k
    · rw [if_pos z, if_pos z]
    · rw [if_neg z, if_neg z]; exact h2
    · rw [if_pos z, if_pos z]; exact h3
    · rw [if_neg z, if_neg z]; exact h3
    · rw [if_pos z, if_pos z]; exact hv
    · rw [if_neg z, if_neg z]; exact h4
theorem KRep.append : ∀ {acc bcc : List (D × D)} {us ws : List KdE}, KRep K F acc us → KRep K F bcc ws → KRep K F (acc ++ bcc) (us ++ ws)
  | [], _, _, _, h, h' => by rw [show _ = [] from h]; exact h'
  | q :: acc, _, _, _, ⟨u, us', h1, h2, h3, h4, h5⟩, h' => by subst h1; exact ⟨u, us' ++ _, rfl, h2, h3, h4, h5.append h'⟩
theorem KRep.put {acc : List (D × D)} {us : List KdE} (h : KRep K F acc us) (hk : Rep K F k (.ref p)) (hv : Rep K F d v) : KRep K F (putKD acc k d) (putN us (nkD k) p v) := by
  unfold putKD putN
  rw [h.any k]
  by_cases z : (acc.any fun kv => decide (nkD kv.1 = nkD k)) = true
  · rw [if_pos z, if_pos z]; exact h.over hv
  · rw [if_neg z, if_neg z]; exact h.append ⟨(nkD k, p, v), [], rfl, rfl, hk, hv, rfl⟩
theorem KRep.val (k : D) : ∀ {acc : List (D × D)} {us : List KdE}, KRep K F acc us → (valKD acc k = none ∧ valN us (nkD k) = none) ∨ ∃ d v, valKD acc k = some d ∧ valN us (nkD k) = some v ∧ Rep K F d v
  | [], _, h => by rw [show _ = [] from h]; exact .inl ⟨rfl, rfl⟩
  | q :: acc, _, ⟨u, us', h1, h2, h3, h4, h5⟩ => by
    subst h1
    by_cases z : nkD q.1 = nkD k
    · right
      refine ⟨q.2, u.2.2, ?_, ?_, h4⟩
      · unfold valKD; rw [List.find?_cons_of_pos (by simpa using z)]; rfl
      · unfold valN; rw [List.find?_cons_of_pos (by simpa [h2] using z)]; rfl
    · have ih := KRep.val k h5
      unfold valKD valN at ih ⊢
      rw [List.find?_cons_of_neg (by simpa using z), List.find?_cons_of_neg (by simpa [h2] using z)]
      exact ih
end
open Out (Rt)
def KR (K : PySem.W.Frag) (F : Hp) (acc : List (D × D)) (us : List KdE) : Prop := KRep K F acc us ∧ ∀ p ∈ acc, KyD p.1
theorem KR.mono {K : PySem.W.Frag} {F F' : Hp} (e : Ex F F') {acc : List (D × D)} {us : List KdE} (h : KR K F acc us) : KR K F' acc us := ⟨h.1.mono e, h.2⟩
theorem KR.length {K : PySem.W.Frag} {F : Hp} {acc : List (D × D)} {us : List KdE} (h : KR K F acc us) : us.length = acc.length := h.1.length
theorem putKD_ky {acc : List (D × D)} {k d : D} (h : ∀ p ∈ acc, KyD p.1) (hk : KyD k) : ∀ p ∈ putKD acc k d, KyD p.1 := fun p hp => by
  unfold putKD at hp
  split at hp
  · obtain ⟨q, hq, rfl⟩ := List.mem_map.mp hp
    split
    · exact h q hq
    · exact h q hq
  · rcases List.mem_append.mp hp with z | z
    · exact h p z
    · cases List.mem_singleton.mp z; exact hk
theorem KR.put {K : PySem.W.Frag} {F : Hp} {acc : List (D × D)} {us : List KdE} {k d : D} {p : Addr} {v : V} (h : KR K F acc us) (hk : KyD k) (h1 : Rep K F k (.ref p)) (h2 : Rep K F d v) : KR K F (putKD acc k d) (putN us (nkD k) p v) := ⟨h.1.put h1 h2, putKD_ky h.2 hk⟩
theorem KR.own {K : PySem.W.Frag} {F H : Hp} {w : World} {p : Addr} {acc : List (D × D)} {us : List KdE} (h : KR K F acc us) (hp : H p = some (KdO w p us)) : Own K F H p (kdD w acc) := own_kdD h.1 hp
open Out (Rt)
mutual
theorem nk_as {h : Heap} : ∀ (d : PyData) {v : Value} {as : List Addr}, nkB d = true → Reads h v d as → as = []
  | .int i, _, _, _, .int _ t => rfl
  | .bool b, _, _, _, .bool _ => rfl
  | .str x, _, _, _, .str _ t => rfl
  | .none, _, _, _, .none => rfl
  | .tuple ds, _, _, hb, .tuple h1 h2 h3 h4 => nk_asAll ds hb h4
theorem nk_asAll {h : Heap} : ∀ (ds : List PyData) {vs : List Value} {as : List Addr}, nkBs ds = true → ReadsAll h vs ds as → as = []
  | [], _, _, _, .nil => rfl
  | d :: ds, _, _, hb, .cons h1 h2 => by
    have hb : (nkB d && nkBs ds) = true := hb
    rw [Bool.and_eq_true] at hb
    rw [nk_as d hb.1 h1, nk_asAll ds hb.2 h2]; rfl
end
open Out (Rt)
open Out (Rt)
open Out (Rt)
open Out (Rt)
theorem Wk.trans {a b c : Env2} (w : Wk a b) : Wk b c → Wk a c := by
  induction w generalizing c with
  | nil => intro v; cases v; exact .nil
  | no _ ih => intro v; cases v with
    | no v => exact .no (ih v)
    | eq v => exact .no (ih v)
  | eq _ ih => intro v; cases v with
    | no v => exact .no (ih v)
    | eq v => exact .eq (ih v)
open Out (Rt)
open Out (Rt)
section
variable {X : Cy} {e a b c o tg : Expr} {r : Env2} {G : GD} {pos tpos apos cpos p0 : Pos} {D0 : EndsD} {α β : Type}
theorem call_sortedTD {β : Type} {enc : β → PyData} (hu : X.A.units + 64 < cLine) : CallR X.toCx (.builtin "sorted") (fun vs H Q => ∃ (a : Addr) (xs : List V) (bs : List β) (P : V → β → Prop), vs = [V.ref a] ∧ SqT X.K H a xs ∧ Paired P xs bs ∧ (∀ x b, P x b → Dp X.K H x (enc b)) ∧ (∀ b, nkB (enc b) = true) ∧
    PySem.W.AllAlike (bs.map enc) ∧ PySem.W.Sortable (bs.map enc) ∧ (∀ b ∈ bs, (enc b).depth ≤ 60) ∧ ∀ ys p, Paired P ys (bs.mergeSort (PySem.W.dataLe false enc)) → H p = none → Q (.ref p) (upd H p (.lst ys))) := by
  intro pins s σ H vs us Q I r q
  obtain ⟨a, xs, bs, P, rfl, hd, hP, hx, hnk, hal, hso, hdp, q⟩ := q
  obtain ⟨u, rfl, rx⟩ := vals1 r
  cases rx
  obtain ⟨its, rv, pl, hz⟩ := I.tuple hd
  obtain ⟨o, ho, hc, n, hdd⟩ := pl
  refine Calls.call_function_entry PyProof.Rows.kind_sorted PyProof.Rows.plain_sorted PyProof.Rows.entry_sorted (PyProof.Rows.args_sorted1 _) ?_
  unfold Builtin.«sorted»
  refine wpAny_bind (m := checkCount "sorted" 1 1 _) (wpAny_pure ?_)
  refine wpAny_bind (wpAny_collect_seq a (.inr rfl) ho hc hdd (fun h' hk => ?_) (by rw [List.size_toArray, ← rv.length]; exact hz))
  have hlen : its.length = bs.length := by rw [← rv.length]; exact Paired.length hP
  have hbs : bs.length ≤ sizeLine := by rw [← hlen, ← rv.length]; exact hz
  have I1 : Inv X.toCx pins σ H { s with heap := h' } := I.kept (t' := s.toks) hk
  have eR : PySem.W.EachIs (fun u b => ∃ x, RelV x u ∧ P x b) its bs := each_of rv hP
  refine wpAny_bind (wpAny_newList ?_ (by rw [show (its.toArray.toList).length = its.length by simp, hlen]; exact hbs))
  rw [show its.toArray.toList = its by simp]
  have hoL : (h'.push (seqObj "list" its.toArray 0)).get? h'.objs.size = some (seqObj "list" its.toArray 0) := Heap.get?_push_size _ rfl
  show wpAny _ _ _ _ _ { s with heap := h'.push (seqObj "list" its.toArray 0) }
  have er : PySem.W.EachIs (fun v b => ∃ as, Reads (h'.push (seqObj "list" its.toArray 0)) v (enc b) as ∧ h'.objs.size ∉ as) its bs := eR.mono fun v b ⟨x, rx, hp⟩ => by
    obtain ⟨as, hr⟩ := Dp.reads I1 _ x v (hx x b hp) rx
    refine ⟨as, PyProof.Rows.Reads.keeps (fun _ _ e => Heap.get?_push_of_some _ e) hr, ?_⟩
    rw [nk_as _ (hnk b) hr]; exact fun z => nomatch z
  refine wpAny_bind (wpAny_holding (PySem.W.list_sort_data (s := { s with heap := h'.push (seqObj "list" its.toArray 0) }) hoL eR er hal hso hbs (fun b hb => by have := hdp b hb; have : X.A.in1.units = X.A.units + 1 := rfl; omega) fun out g5 g6 => ?_))
  obtain ⟨zs, v1, v2⟩ := of_each g6
  obtain ⟨e', he'⟩ := PyProof.Rows.sortedHeap_at (vs := its) (out := out.toArray) hoL
  have hzl : zs.length ≤ sizeLine := by rw [v1.length, g5]; exact hbs
  refine wpAny_pure ⟨_, rfl, .ref h'.objs.size, upd H h'.objs.size (.lst zs), I1.laid (t' := s.toks) (fun b u e => ?_) (Nat.le_refl _) (show ObjOk X.prog X.w _ _ _ (.lst zs) from ⟨hzl, out, e', v1, he'⟩), rfl, q _ _ v2 (I1.hok.fresh (Nat.le_refl _))⟩
  have hb : b < h'.objs.size := Heap.lt_size e
  rw [PyProof.Rows.sortedHeap_old (Nat.ne_of_lt hb) (by rw [size_push']; exact Nat.lt_succ_of_lt hb)]
  exact Heap.get?_push_of_some _ e
end
open Out (Rt)
open Out (Rt)
open Out (Rt)
section
variable {X : Cy} {e a b c o : Expr} {es : List Expr} {st : Stmt} {sts rest : List Stmt} {r : Env2} {G : GD} {pos apos p0 : Pos} {D0 : EndsD}
theorem zip_lookup {K : PySem.W.Frag} {F : Hp} : ∀ {ns : List Str} {ds : List D} {vs : List V}, ns.length = ds.length → RepL K F ds vs → ∀ {f : Str} {d : D}, (ns.zip ds).lookup f = some d → ∃ v, (ns.zip vs).lookup f = some v ∧ Rep K F d v
  | [], ds, vs, _, _, f, d, h => by simp at h
  | n :: ns, [], vs, hl, _, _, _, _ => nomatch hl
  | n :: ns, d0 :: ds, vs, hl, ⟨v, r, e, h1, h2⟩, f, d, h => by
    subst e
    rw [List.zip_cons_cons, List.lookup_cons] at h ⊢
    by_cases hf : (f == n) = true
    · rw [hf] at h ⊢; cases h; exact ⟨v, rfl, h1⟩
    · rw [Bool.not_eq_true] at hf; rw [hf] at h ⊢
      exact zip_lookup (Nat.succ.inj hl) h2 h
theorem zip_none : ∀ {ns : List Str} {vs : List V} {f : Str}, (ns.all fun n => !(f == n)) = true → (ns.zip vs).lookup f = none
  | [], _, _, _ => by simp
  | n :: ns, [], _, _ => by simp
  | n :: ns, v :: vs, f, h => by
    rw [List.all_cons, Bool.and_eq_true, Bool.not_eq_true'] at h
    rw [List.zip_cons_cons, List.lookup_cons, h.1]
    exact zip_none h.2
/-- attributes with a new value of one -/
def putA (f : Str) : List Str → List Str
  | [] => [f]
  | g :: r => if g = f then g :: r else g :: putA f r
def putAD (f : Str) (d : D) : List Str → List D → List D
  | g :: r, x :: ds => if g = f then d :: ds else x :: putAD f d r ds
  | _, _ => [d]
theorem putF_zip {K : PySem.W.Frag} {F : Hp} {f : Str} {d : D} {v : V} (hv : Rep K F d v) : ∀ {ns : List Str} {ds : List D} {vs : List V}, ns.length = ds.length → RepL K F ds vs → ∃ us, putF f v (ns.zip vs) = (putA f ns).zip us ∧ (putA f ns).length = (putAD f d ns ds).length ∧ RepL K F (putAD f d ns ds) us
  | [], [], vs, _, h => by cases (show vs = [] from h); exact ⟨[v], rfl, rfl, v, [], rfl, hv, rfl⟩
  | [], _ :: _, _, hl, _ => nomatch hl
  | _ :: _, [], _, hl, _ => nomatch hl
  | n :: ns, d0 :: ds, vs, hl, ⟨v0, r, e, h1, h2⟩ => by
    subst e
    rw [List.zip_cons_cons]
    unfold putF putA putAD
    by_cases hf : n = f
    · rw [if_pos hf, if_pos hf, if_pos hf]
      exact ⟨v :: r, rfl, hl, v, r, rfl, hv, h2⟩
    · rw [if_neg hf, if_neg hf, if_neg hf]
      obtain ⟨us, k1, k2, k3⟩ := putF_zip hv (Nat.succ.inj hl) h2
      exact ⟨v0 :: us, by rw [k1]; rfl, by rw [List.length_cons, List.length_cons, k2], v0, us, rfl, h1, k3⟩
theorem objs_at {K : PySem.W.Frag} {F0 T F H : Hp} {σ : L2.St} (S : Sta K F0 T F G H r σ) {p C : Addr} {ns : List Str} {ds : List D} (h : G p = some (.obj C ns ds)) : ∃ dx vs, H p = some (.ins C dx (ns.zip vs)) ∧ ns.length = ds.length ∧ RepL K F ds vs := S.bas.gh p _ h
/-- self.f -/
theorem we_fldO {f : Str} {Q : Res → Env2 → GD → Prop} (h : WE X e r G fun x r1 G1 => ∃ p C ns ds d, x = .sh (.adr p) ∧ G1 p = some (.obj C ns ds) ∧ Cls X.K C ∧ NoAttr X.K C f ∧ (ns.zip ds).lookup f = some d ∧ Q (.sh d) r1 G1)
    (hb : attributeBase e f X.env (eval e X.env) = eval e X.env := by rfl) : WE X (.Attribute e f pos) r G Q := fun F0 T F H σ lk S =>
  Run.of (pe_fld peR hb) ((h F0 T F H σ lk S).mono fun v H1 ⟨x, r1, G1, F1, e1, S1, k1, p, C, ns, ds, d, hx, hG, hc, hn, hl, q⟩ => by
    subst hx
    obtain ⟨dx, vs, k2, k3, k4⟩ := objs_at S1 hG
    obtain ⟨w, m1, m2⟩ := zip_lookup (ns := ns) (ds := ds) (vs := vs) k3 k4 hl
    exact ⟨p, C, dx, _, w, k1, k2, hc, hn, m1, .sh d, r1, G1, F1, e1, S1, m2, q⟩)
/-- self.f = e -/
theorem ws_fldO {f : Str} (h : WE X e r G fun y r1 G1 => ∃ d r2, fz r1 y = some (d, r2) ∧ WE X o r2 G1 fun x r3 G3 => ∃ p C ns ds, x = .sh (.adr p) ∧ G3 p = some (.obj C ns ds) ∧ Cls X.K C ∧ NoAttr X.K C f ∧ ns.length < 1000 ∧ D0.nx r3 (updG G3 p (.obj C (putA f ns) (putAD f d ns ds))))
    (hs : swapsWith e (some (.Attribute o f apos)) pos.line X.env = pure false := by rfl) : WS X (.Assign [.Attribute o f apos] e pos) r G D0 := fun F0 T F H σ lk S =>
  RunS.of (ps_fld peR peR hs) ((h F0 T F H σ lk S).mono fun v H1 ⟨y, r1, G1, F1, e1, S1, k1, d, r2, q1, h2⟩ => by
    obtain ⟨F2, e2, S2, rp⟩ := S1.fz k1 q1
    refine (h2 F0 T F2 H1 σ lk S2).mono fun u H2 ⟨x, r3, G3, F3, e3, S3, k3, p, C, ns, ds, hx, hG, hc, hn, hl, q⟩ => ?_
    subst hx
    obtain ⟨dx, vs, m2, m3, m4⟩ := objs_at S3 hG
    obtain ⟨us, n1, n2, n3⟩ := putF_zip (f := f) (Rep.mono e3 _ _ rp) m3 m4
    refine ⟨p, C, dx, _, k3, m2, hc, hn, by rw [List.length_zip]; omega, r3, _, F3, ?_, q⟩
    rw [n1]
    exact S3.gput hG ⟨dx, us, upd_same, n2, n3⟩)
def tMethOS (C : Addr) (m : Str) (sp : Sp) (E : L2.St → XK) (ta : TE) (t : TA) : TE := fun σ H Q => ta σ H fun x H1 => ∃ a dx fs, x = .ref a ∧ H1 a = some (.ins C dx fs) ∧ fs.lookup m = none ∧ t σ H1 fun ws H2 => sp (x :: ws) H2 Q (E σ)
theorem pe_methOS {X : Cx} {m : Str} {ta : TE} {t : TA} {CX : CXT} {k : Nat} {C g : Addr} {sp : Sp} {E : L2.St → XK} {pl : Sem Bool} (he : PE X o ta) (c : Cls X.K C) (hm : Meth X.K C m g) (F : FnR X.prog X.w X.K X.mg X.base CX k g sp) (hr : Room k X.A) (hx : ∀ σ, PassesAt CX X σ (E σ)) (ha : PA X (e :: es) t)
    (hst : starEach (e :: es) X.env = (false, eval e X.env) :: starEach es X.env := by rfl) (hpl : (backTo pos (starEach es X.env)).any (·.1) = false := by rfl)
    (ht : eval (.Call (.Attribute o m apos) (e :: es) [] pos) X.env = (do
      let ov ← eval o X.env
      standAt apos.atName
      let (f, first) ← holding [ov] (getMethod ov m pl)
      callWith pos f first (backTo pos (starEach (e :: es) X.env)) (backToKw pos (keywordEach [] X.env))) := by rfl) :
    PE X (.Call (.Attribute o m apos) (e :: es) [] pos) (tMethOS C m sp E ta t) := by
  refine ⟨fun pins s σ H Q I h => ?_⟩
  refine PySem.W.methodCall_KW (pl := pl) (thn (he.run pins s σ H _ I h) fun u s1 ⟨x, H1, I1, rx, a, dx, fs, ex, ea, l, q⟩ => ?_) ht
  subst ex
  obtain rfl : u = Value.ref a := rx
  refine getmeth_ok I1 ea c hm l ?_
  refine PySem.W.callWith_K (first := [.ref a]) (h₀ := X.base) I.ok.mod.kin hm.kp (thn (ha.run pos pins s1 σ H1 _ I1 q) fun us s2 ⟨ws, H2, I2, r, q2⟩ => ⟨I2.kIn, ?_⟩) hst hpl
  exact run_fnRS (us := .ref a :: us) (vs := .ref a :: ws) F hr (hx σ) I2 (.cons rfl r) q2
theorem pe_methO0S {X : Cx} {m : Str} {ta : TE} {CX : CXT} {k : Nat} {C g : Addr} {sp : Sp} {E : L2.St → XK} {pl : Sem Bool} (he : PE X o ta) (c : Cls X.K C) (hm : Meth X.K C m g) (F : FnR X.prog X.w X.K X.mg X.base CX k g sp) (hr : Room k X.A) (hx : ∀ σ, PassesAt CX X σ (E σ))
    (ht : eval (.Call (.Attribute o m apos) [] [] pos) X.env = (do
      let ov ← eval o X.env
      standAt apos.atName
      let (f, first) ← holding [ov] (getMethod ov m pl)
      callWith pos f first (backTo pos (starEach [] X.env)) (backToKw pos (keywordEach [] X.env))) := by rfl) :
    PE X (.Call (.Attribute o m apos) [] [] pos) (tMethOS C m sp E ta tNil) := by
  refine ⟨fun pins s σ H Q I h => ?_⟩
  refine PySem.W.methodCall_KW (pl := pl) (thn (he.run pins s σ H _ I h) fun u s1 ⟨x, H1, I1, rx, a, dx, fs, ex, ea, l, q⟩ => ?_) ht
  subst ex
  obtain rfl : u = Value.ref a := rx
  refine getmeth_ok I1 ea c hm l ?_
  exact PySem.W.callWith_K0 (first := [.ref a]) I1.kIn hm.kp (run_fnRS (us := [.ref a]) (vs := [.ref a]) F hr (hx σ) I1 (.cons rfl .nil) q)
theorem we_methO0 {m : Str} {C : Addr} {k j : Nat} {ps : List Str} {sp : FSp} {pl : Sem Bool} {Q : Res → Env2 → GD → Prop} (tk : X.Tk) (c : Cls X.K C) (p : MethD X.prog X.w X.K X.mg X.base C m k ps sp) (hr : Room j X.A) (h : WE X o r G fun x r1 G1 => ∃ q ns ds, x = .sh (.adr q) ∧ G1 q = some (.obj C ns ds) ∧ (ns.all fun n => !(m == n)) = true ∧ sp [.adr q] G1 (fun z G2 => Q z r1 G2) (fun x G2 => X.QX x r1 G2)) (hj : k ≤ j := by omega)
    (ht : eval (.Call (.Attribute o m apos) [] [] pos) X.env = (do
      let ov ← eval o X.env
      standAt apos.atName
      let (f, first) ← holding [ov] (getMethod ov m pl)
      callWith pos f first (backTo pos (starEach [] X.env)) (backToKw pos (keywordEach [] X.env))) := by rfl) : WE X (.Call (.Attribute o m apos) [] [] pos) r G Q := fun F0 T F H σ lk S => by
  obtain ⟨g, fd, h1, h2, h3⟩ := p.ex
  refine Run.of (pe_methO0S (pl := pl) peR c h1 (fnr h2 h3) (hr.mono hj) (fun σ => passAt tk σ) ht) ((h F0 T F H σ lk S).mono fun v H1 ⟨x, r1, G1, F1, e1, S1, k1, q, ns, ds, hx, hG, hn, q2⟩ => ?_)
  subst hx
  obtain ⟨dx, vs, m2, m3, m4⟩ := objs_at S1 hG
  exact ⟨q, dx, _, k1, m2, zip_none hn, spD_of lk S1 e1 (.one k1) q2⟩
theorem we_methO {m : Str} {C : Addr} {k j : Nat} {ps : List Str} {sp : FSp} {pl : Sem Bool} {Q : Res → Env2 → GD → Prop} (tk : X.Tk) (c : Cls X.K C) (p : MethD X.prog X.w X.K X.mg X.base C m k ps sp) (hr : Room j X.A) (h : WE X o r G fun x r1 G1 => ∃ q ns ds, x = .sh (.adr q) ∧ G1 q = some (.obj C ns ds) ∧ (ns.all fun n => !(m == n)) = true ∧ WA X (e :: es) r1 G1 fun as r2 G2 => sp (.adr q :: as) G2 (fun z G3 => Q z r2 G3) (fun x G3 => X.QX x r2 G3)) (hj : k ≤ j := by omega)
    (hst : starEach (e :: es) X.env = (false, eval e X.env) :: starEach es X.env := by rfl) (hpl : (backTo pos (starEach es X.env)).any (·.1) = false := by rfl)
    (ht : eval (.Call (.Attribute o m apos) (e :: es) [] pos) X.env = (do
      let ov ← eval o X.env
      standAt apos.atName
      let (f, first) ← holding [ov] (getMethod ov m pl)
      callWith pos f first (backTo pos (starEach (e :: es) X.env)) (backToKw pos (keywordEach [] X.env))) := by rfl) : WE X (.Call (.Attribute o m apos) (e :: es) [] pos) r G Q := fun F0 T F H σ lk S => by
  obtain ⟨g, fd, h1, h2, h3⟩ := p.ex
  refine Run.of (pe_methOS (pl := pl) peR c h1 (fnr h2 h3) (hr.mono hj) (fun σ => passAt tk σ) paR hst hpl ht) ((h F0 T F H σ lk S).mono fun v H1 ⟨x, r1, G1, F1, e1, S1, k1, q, ns, ds, hx, hG, hn, h2⟩ => ?_)
  subst hx
  obtain ⟨dx, vs, m2, m3, m4⟩ := objs_at S1 hG
  refine ⟨q, dx, _, k1, m2, zip_none hn, (h2 F0 T F1 H1 σ lk S1).mono fun ws H2 ⟨as, r2, G2, F2, e2, S2, k2, q3⟩ => ?_⟩
  exact spD_of (ds := .adr q :: as) lk S2 (e1.trans e2) ⟨_, _, rfl, k1, k2⟩ q3
/-- self.f, a property -/
theorem we_propO {f : Str} {C : Addr} {k j : Nat} {sp : FSp} {Q : Res → Env2 → GD → Prop} (c : Cls X.K C) (p : PropD X.prog X.w X.K X.mg X.base C f k sp) (hr : Room j X.A) (h : WE X e r G fun x r1 G1 => ∃ q ns ds, x = .sh (.adr q) ∧ G1 q = some (.obj C ns ds) ∧ sp [.adr q] G1 (fun z G2 => Q z r1 G2) (fun _ _ => False)) (hj : k + 1 ≤ j := by omega)
    (hb : attributeBase e f X.env (eval e X.env) = eval e X.env := by rfl) : WE X (.Attribute e f pos) r G Q := fun F0 T F H σ lk S => by
  obtain ⟨pa, g, fd, h1, h2, h3, h4, h5, h6⟩ := p.ex
  refine Run.of (pe_prop (E := fun _ _ _ => False) (dvs := []) (ds := []) peR c ⟨h1, h2, h3, h4⟩ h5 (hr.mono hj) h6 .nil (fun _ _ _ _ _ _ _ ⟨_, _, _, _, _, _, _, _, _, _, _, _, z⟩ => z.elim) hb) ((h F0 T F H σ lk S).mono fun v H1 ⟨x, r1, G1, F1, e1, S1, k1, q, ns, ds, hx, hG, q2⟩ => ?_)
  subst hx
  obtain ⟨dx, vs, m2, m3, m4⟩ := objs_at S1 hG
  cases (show v = .ref q from k1)
  exact ⟨q, dx, _, rfl, m2, spD_of0 S1 e1 (.one (show Rep X.K F1 (.adr q) (.ref q) from rfl)) q2⟩
structure MakeO (P : Program) (w : World) (K : PySem.W.Frag) (mg : Str → Option Value) (base : Heap) (x : Str) (C : Addr) (k : Nat) (ps : List Str) (f : FSp) : Prop where
  ex : ∃ (g : Addr) (fd : FuncData), Mk K C g ∧ mg x = some (.ref C) ∧ FnOk P w K mg base (CX P w) k g fd ps (spD K f) ∧ Binds K fd ps []
theorem we_makeO {x : Str} {C : Addr} {k j : Nat} {ps : List Str} {f : FSp} {Q : Res → Env2 → GD → Prop} (tk : X.Tk) (M : MakeO X.prog X.w X.K X.mg X.base x C k ps f) (hr : Room j X.A) (hg : Gl X x)
    (h : WA X (e :: es) r G fun ds r1 G1 => ∀ p dx, G1 p = none → G1 dx = none → dx ≠ p → f (.adr p :: ds) (updG (updG G1 dx (.xdo p false)) p (.obj C [] [])) (fun z G2 => z = .sh .non ∧ Q (.sh (.adr p)) r1 G2) (fun xn G2 => X.QX xn r1 G2)) (hj : k + 1 ≤ j := by omega)
    (hdb : (x == ("__debug__" : Str)) = false := by decide) (he : starEach (e :: es) X.env = (false, eval e X.env) :: starEach es X.env := by rfl) (hpl : (backTo pos (starEach es X.env)).any (·.1) = false := by rfl) : WE X (.Call (.Name x p0) (e :: es) [] pos) r G Q := fun F0 T F H σ lk S => by
  obtain ⟨g, fd, h1, h2, h3, h4⟩ := M.ex
  refine Run.of (pe_makeS h1 h3 (hr.mono hj) hg h2 h4 (fun σ => passAt tk σ) paR hdb he hpl) ((h F0 T F H σ lk S).mono fun vs H1 ⟨ds, r1, G1, F1, e1, S1, k1, q1⟩ => ?_)
  intro ad dx ha hd hne
  obtain ⟨f1, f2, f3⟩ := S1.bas.freshF ha
  obtain ⟨g1, g2, g3⟩ := S1.bas.freshF hd
  have S2 : Sta X.K F0 T F1 (updG G1 dx (.xdo ad false)) (upd H1 dx (.own ad)) r1 σ := by
    have Sn := S1.newH (o := .own ad) hd
    refine ⟨⟨Sn.bas.ff, Sn.bas.ft, Sn.bas.fh, fun p d hp => ?_, fun p d hp => ?_, fun p d hp => ?_, Sn.bas.tk⟩, Sn.len, fun i s hs => ?_, Sn.ap⟩
    · by_cases hpd : p = dx
      · subst hpd; rw [updG_same] at hp; cases hp; exact upd_same
      · rw [updG_ne hpd] at hp; exact Sn.bas.gh p d hp
    · by_cases hpd : p = dx
      · subst hpd; exact g1
      · rw [updG_ne hpd] at hp; exact Sn.bas.fg p d hp
    · by_cases hpd : p = dx
      · subst hpd; exact g3
      · rw [updG_ne hpd] at hp; exact Sn.bas.gt p d hp
    · have hh := Sn.sl i s hs
      cases s with
      | no => trivial
      | sh d => exact hh
      | own d =>
        obtain ⟨p, k1, k2, k3, k4, k5⟩ := hh
        refine ⟨p, k1, k2, k3, ?_, k5⟩
        have hpd : p ≠ dx := fun z => by
          obtain ⟨p', z1, z2, _⟩ := S1.ownS hs
          rw [z1] at k1; cases k1
          obtain ⟨u, hu⟩ := z2.there
          rw [z, hd] at hu; cases hu
        rw [updG_ne hpd]; exact k4
  have ha2 : (upd H1 dx (.own ad)) ad = none := by rw [upd_ne (fun z => hne z.symm)]; exact ha
  have S3 : Sta X.K F0 T F1 (updG (updG G1 dx (.xdo ad false)) ad (.obj C [] [])) (upd (upd H1 dx (.own ad)) ad (.ins C dx [])) r1 σ := by
    have Sn := S2.newH (o := .ins C dx []) ha2
    obtain ⟨w1, w2, w3⟩ := S2.bas.freshF ha2
    refine ⟨⟨Sn.bas.ff, Sn.bas.ft, Sn.bas.fh, fun p d hp => ?_, fun p d hp => ?_, fun p d hp => ?_, Sn.bas.tk⟩, Sn.len, fun i s hs => ?_, Sn.ap⟩
    · by_cases hpd : p = ad
      · subst hpd; rw [updG_same] at hp; cases hp; exact ⟨dx, [], upd_same, rfl, rfl⟩
      · rw [updG_ne hpd] at hp; exact Sn.bas.gh p d hp
    · by_cases hpd : p = ad
      · subst hpd; exact w1
      · rw [updG_ne hpd] at hp; exact Sn.bas.fg p d hp
    · by_cases hpd : p = ad
      · subst hpd; exact w3
      · rw [updG_ne hpd] at hp; exact Sn.bas.gt p d hp
    · have hh := Sn.sl i s hs
      cases s with
      | no => trivial
      | sh d => exact hh
      | own d =>
        obtain ⟨p, k1, k2, k3, k4, k5⟩ := hh
        refine ⟨p, k1, k2, k3, ?_, k5⟩
        have hpd : p ≠ ad := fun z => by
          obtain ⟨p', z1, z2, _⟩ := S2.ownS hs
          rw [z1] at k1; cases k1
          obtain ⟨u, hu⟩ := z2.there
          rw [z, ha2] at hu; cases hu
        rw [updG_ne hpd]; exact k4
  refine ⟨F1, _, .adr ad :: ds, _, _, S3.bas.fh, S3.bas.gh, S3.bas.fg, ⟨_, _, rfl, rfl, k1⟩, q1 ad dx f2 g2 hne, fun z G' v H' F' hp B rt => ?_, fun xn cls d G' H' F' hp B ex => ⟨r1, G', F', xn, lk.sta (S3.after B), ex, hp⟩⟩
  obtain ⟨hz, hq⟩ := hp
  subst hz
  exact ⟨rt, .sh (.adr ad), r1, G', F', e1.trans B.ff, S3.after B, rfl, hq⟩
end
open Out (Rt)
section
variable {X : Cy} {e a b c o tg kx vx elt : Expr} {es ifs : List Expr} {st : Stmt} {sts rest body orelse : List Stmt} {r : Env2} {G : GD} {pos tpos apos cpos p0 : Pos} {D0 : EndsD} {α β γ σT ρ : Type}
def AtG (env : σT → Env2) (gg : σT → GD → Prop) (Q : σT → Prop) : Env2 → GD → Prop := fun r G => ∃ s, Wk r (env s) ∧ gg s G ∧ Q s
theorem wb_joinG (env : σT → Env2) (gg : σT → GD → Prop) {m : Out σT} {f : σT → Out β} {Q : β → Prop} {E : Xm → Prop} (h : (m.bind f).sat Q E)
    (hs : ∀ Q' : σT → Prop, m.sat Q' E → WS X st r G { D0 with nx := AtG env gg Q' }) (k : ∀ s G, gg s G → (f s).sat Q E → WB X rest (env s) G D0) : WB X (st :: rest) r G D0 :=
  wb_cut (AtG env gg fun s => (f s).sat Q E) (hs _ (Out.sb h)) fun r1 G1 ⟨s, w, hg, q⟩ => by
    exact (k s _ hg q).weak w
theorem wb_forOG (is : List Nat) (env : σT → Env2) (gg : σT → GD → Prop) (en : α → D) (hp : PassesOwn (model X.prog X.w) X.A X.env X.xe) (hc : X.calm = true)
    (h : WI X tg e r G fun ds r2 G1 => ∃ (xs : List α) (s0 : σT) (f : σT → α → Out σT) (kk : σT → Out β) (Q : β → Prop) (E : Xm → Prop), ds = xs.map en ∧ Wk r2 (env s0) ∧ gg s0 G1 ∧ ((Out.fold f xs s0).bind kk).sat Q E ∧
      (∀ (s : σT) (G : GD) (x : α) (Q' : σT → Prop), gg s G → (f s x).sat Q' E → WG X tg (en x) (env s) G is fun r4 G4 => WB X body r4 G4 { D0 with nx := AtG env gg Q', ct := AtG env gg Q', bk := fun r1 G1 => WB X rest r1 G1 D0 }) ∧
      ∀ s G, gg s G → (kk s).sat Q E → WB X rest (env s) G D0) (hs : ∀ x, foldedSetIterable e X.env x = pure x := by intro _; rfl) : WB X (.For tg e body [] pos :: rest) r G D0 :=
  wb_cons (ws_for (is := is) hp hc (h.mono fun ds r2 G1 ⟨xs, s0, f, kk, Q, E, hd, w0, hg, h0, hb, hn⟩ => by
    subst hd
    refine ⟨fun k r3 G3 => AtG env gg (fun s => ((Out.fold f (xs.drop k) s).bind kk).sat Q E) r3 G3, ⟨s0, w0, hg, h0⟩, fun k d r3 G3 hd ⟨s, w, hg, hq⟩ => ?_, fun r3 G3 ⟨s, w, hg, hq⟩ => ?_⟩
    · obtain ⟨x, hx, rfl⟩ := map_at hd
      rw [drop_at hx] at hq
      have hq' : (f s x).sat (fun s' => ((Out.fold f (xs.drop (k + 1)) s').bind kk).sat Q E) E := by
        have z : (((f s x).bind (Out.fold f (xs.drop (k + 1)))).bind kk).sat Q E := hq
        cases hf : f s x with
        | ok s' => rw [hf] at z; exact z
        | ex x' => rw [hf] at z; exact z
        | no => rw [hf] at z; exact z
      exact (hb s _ x _ hg hq').weak w
    · rw [List.length_map, List.drop_length] at hq
      exact (hn s _ hg hq).weak w) hs)
theorem wb_forRG (is : List Nat) (env : σT → Env2) (gg : σT → GD → Prop) (en : α → D) (er : ρ → Res) (gr : ρ → GD → Prop) (hp : PassesOwn (model X.prog X.w) X.A X.env X.xe) (hc : X.calm = true)
    (h : WI X tg e r G fun ds r2 G1 => ∃ (xs : List α) (s0 : σT) (f : σT → α → Out (Rt σT ρ)) (kk : Rt σT ρ → Out β) (Q : β → Prop) (E : Xm → Prop), ds = xs.map en ∧ Wk r2 (env s0) ∧ gg s0 G1 ∧ ((Out.loop f xs s0).bind kk).sat Q E ∧
      (∀ (s : σT) (G : GD) (x : α) (Q' : Rt σT ρ → Prop), gg s G → (f s x).sat Q' E → WG X tg (en x) (env s) G is fun r4 G4 => WB X body r4 G4 { nx := AtG env gg (fun s => Q' (.nx s)), ct := AtG env gg (fun s => Q' (.nx s)), bk := fun r1 G1 => WB X rest r1 G1 D0, rt := fun y G' => ∃ v, y = er v ∧ gr v G' ∧ Q' (.rt v) }) ∧
      (∀ v G, gr v G → (kk (.rt v)).sat Q E → D0.rt (er v) G) ∧ ∀ s G, gg s G → (kk (.nx s)).sat Q E → WB X rest (env s) G D0) (hs : ∀ x, foldedSetIterable e X.env x = pure x := by intro _; rfl) : WB X (.For tg e body [] pos :: rest) r G D0 :=
  wb_cons (ws_for (is := is) hp hc (h.mono fun ds r2 G1 ⟨xs, s0, f, kk, Q, E, hd, w0, hg, h0, hb, hr, hn⟩ => by
    subst hd
    refine ⟨fun k r3 G3 => AtG env gg (fun s => ((Out.loop f (xs.drop k) s).bind kk).sat Q E) r3 G3, ⟨s0, w0, hg, h0⟩, fun k d r3 G3 hd ⟨s, w, hg, hq⟩ => ?_, fun r3 G3 ⟨s, w, hg, hq⟩ => ?_⟩
    · obtain ⟨x, hx, rfl⟩ := map_at hd
      rw [drop_at hx] at hq
      have hq' : (f s x).sat (fun t => match t with
          | .nx s' => ((Out.loop f (xs.drop (k + 1)) s').bind kk).sat Q E
          | .rt v => (kk (.rt v)).sat Q E) E := by
        have z : (((f s x).bind fun t => match t with
          | .nx s' => Out.loop f (xs.drop (k + 1)) s'
          | .rt v => .ok (.rt v)).bind kk).sat Q E := hq
        cases hf : f s x with
        | ok t =>
          rw [hf] at z
          cases t with
          | nx s' => exact z
          | rt v => exact z
        | ex x' => rw [hf] at z; exact z
        | no => rw [hf] at z; exact z
      refine WG.weak w fun F0 T F H σ v lk S rp => ?_
      have q := hb s _ x _ hg hq' F0 T F H σ v lk S rp
      refine fun pins s1 u I rv => wpAny_mono (q pins s1 u I rv) (fun _ _ ⟨σ', H', I', hw, r', G', F', e', S', q'⟩ => ⟨σ', H', I', hw, r', G', F', e', S', ?_⟩) fun _ _ x => x
      refine WB.mono q' (fun _ _ z => z) (fun y G' ⟨v, hy, hG, z⟩ => ?_) (fun _ _ z => z) (fun _ _ z => z)
      subst hy
      exact hr v _ hG z
    · rw [List.length_map, List.drop_length] at hq
      exact (hn s _ hg hq).weak w) hs)
end
open Out (Rt)
abbrev As := List Addr → GD → Prop
structure AOk (P : As) : Prop where
  dom : ∀ fp G, P fp G → ∀ a ∈ fp, ∃ d, G a = some d
  loc : ∀ fp G G', P fp G → (∀ a ∈ fp, G' a = G a) → P fp G'
/-- what a step leaves: all else is as it was, what is new was not there -/
def Frm (fp : List Addr) (G : GD) (fp' : List Addr) (G' : GD) : Prop := (∀ b, b ∉ fp → G b ≠ none → G' b = G b) ∧ ∀ b ∈ fp', b ∈ fp ∨ G b = none
theorem Frm.refl (fp : List Addr) (G : GD) : Frm fp G fp G := ⟨fun _ _ _ => rfl, fun _ h => .inl h⟩
theorem Frm.trans {a b c : List Addr} {G G' G'' : GD} (h : Frm a G b G') (k : Frm b G' c G'') : Frm a G c G'' := by
  refine ⟨fun x hx hg => ?_, fun x hx => ?_⟩
  · have e := h.1 x hx hg
    have hb : x ∉ b := fun z => by
      rcases h.2 x z with y | y
      · exact hx y
      · exact hg y
    rw [k.1 x hb (by rw [e]; exact hg), e]
  · rcases k.2 x hx with y | y
    · exact h.2 x y
    · by_cases z : x ∈ a
      · exact .inl z
      · right
        cases e : G x with
        | none => rfl
        | some d =>
          have := h.1 x z (by rw [e]; exact fun w => nomatch w)
          rw [y, e] at this; cases this
def GS (Ps : List As) (G : GD) : Prop := ∃ fps : List (List Addr), fps.length = Ps.length ∧ (∀ (i : Nat) (P : As) (fp : List Addr), Ps[i]? = some P → fps[i]? = some fp → AOk P ∧ P fp G) ∧ ∀ (i j : Nat) (fp fq : List Addr), i ≠ j → fps[i]? = some fp → fps[j]? = some fq → ∀ a ∈ fp, a ∉ fq
theorem GS.nil (G : GD) : GS [] G := ⟨[], rfl, fun i P fp h => by simp at h, fun i j fp fq _ h => by simp at h⟩
/-- one of the parts is changed -/
theorem GS.at {Ps : List As} {G : GD} (h : GS Ps G) (i : Nat) {P : As} (hi : Ps[i]? = some P) : ∃ fp, AOk P ∧ P fp G ∧ ∀ (P' : As) (fp' : List Addr) (G' : GD), AOk P' → P' fp' G' → Frm fp G fp' G' → GS (Ps.set i P') G' := by
  obtain ⟨fps, h1, h2, h3⟩ := h
  have hlt : i < Ps.length := (List.getElem?_eq_some_iff.mp hi).1
  obtain ⟨fp, hfp⟩ : ∃ fp, fps[i]? = some fp := ⟨_, List.getElem?_eq_getElem (by omega)⟩
  obtain ⟨k1, k2⟩ := h2 i P fp hi hfp
  refine ⟨fp, k1, k2, fun P' fp' G' q1 q2 q3 => ⟨fps.set i fp', by rw [List.length_set, List.length_set, h1], fun j Q fq hQ hq => ?_, fun j l fq fr hjl hq hr a ha hb => ?_⟩⟩
  · by_cases e : i = j
    · subst e
      rw [List.getElem?_set_self hlt] at hQ
      rw [List.getElem?_set_self (by omega)] at hq
      cases hQ; cases hq; exact ⟨q1, q2⟩
    · rw [List.getElem?_set_ne e] at hQ hq
      obtain ⟨m1, m2⟩ := h2 j Q fq hQ hq
      refine ⟨m1, m1.loc fq G G' m2 fun a ha => q3.1 a (h3 j i fq fp (fun z => e z.symm) hq hfp a ha) ?_⟩
      obtain ⟨d, hd⟩ := m1.dom fq G m2 a ha
      rw [hd]; exact fun z => nomatch z
  · have out : ∀ (m : Nat) (fm : List Addr), m ≠ i → fps[m]? = some fm → ∀ x ∈ fm, x ∉ fp' := fun m fm hm hfm x hx hx' => by
      rcases q3.2 x hx' with y | y
      · exact h3 m i fm fp hm hfm hfp x hx y
      · have hml : m < Ps.length := by have := (List.getElem?_eq_some_iff.mp hfm).1; omega
        obtain ⟨m1, m2⟩ := h2 m _ fm (List.getElem?_eq_getElem hml) hfm
        obtain ⟨d, hd⟩ := m1.dom fm G m2 x hx
        rw [y] at hd; cases hd
    by_cases e : i = j
    · subst e
      rw [List.getElem?_set_self (by omega)] at hq
      rw [List.getElem?_set_ne hjl] at hr
      cases hq
      exact out l fr (fun z => hjl z.symm) hr a hb ha
    · rw [List.getElem?_set_ne e] at hq
      by_cases e2 : i = l
      · subst e2
        rw [List.getElem?_set_self (by omega)] at hr
        cases hr
        exact out j fq (fun z => e z.symm) hq a ha hb
      · rw [List.getElem?_set_ne e2] at hr
        exact h3 j l fq fr hjl hq hr a ha hb
/-- a new part -/
theorem GS.add {Ps : List As} {G : GD} (h : GS Ps G) {P : As} {fp : List Addr} {G' : GD} (k : AOk P) (hp : P fp G') (h1 : ∀ b, G b ≠ none → G' b = G b) (h2 : ∀ b ∈ fp, G b = none) : GS (Ps ++ [P]) G' := by
  obtain ⟨fps, k1, k2, k3⟩ := h
  have dom : ∀ (i : Nat) (fq : List Addr), fps[i]? = some fq → ∀ a ∈ fq, ∃ d, G a = some d := fun i fq hq a ha => by
    have hil : i < Ps.length := by have := (List.getElem?_eq_some_iff.mp hq).1; omega
    obtain ⟨m1, m2⟩ := k2 i _ fq (List.getElem?_eq_getElem hil) hq
    exact m1.dom fq G m2 a ha
  refine ⟨fps ++ [fp], by rw [List.length_append, List.length_append, k1]; rfl, fun i Q fq hQ hq => ?_, fun i j fq fr hij hq hr a ha hb => ?_⟩
  · by_cases hi : i < Ps.length
    · rw [List.getElem?_append_left hi] at hQ
      rw [List.getElem?_append_left (by omega)] at hq
      obtain ⟨m1, m2⟩ := k2 i Q fq hQ hq
      refine ⟨m1, m1.loc fq G G' m2 fun a ha => h1 a ?_⟩
      obtain ⟨d, hd⟩ := m1.dom fq G m2 a ha
      rw [hd]; exact fun z => nomatch z
    · have : i = Ps.length := by have := (List.getElem?_eq_some_iff.mp hQ).1; rw [List.length_append] at this; simp at this; omega
      subst this
      rw [List.getElem?_append_right (Nat.le_refl _), Nat.sub_self] at hQ
      rw [← k1, List.getElem?_append_right (Nat.le_refl _), Nat.sub_self] at hq
      cases hQ; cases hq; exact ⟨k, hp⟩
  · have cs : ∀ (m : Nat) (fm : List Addr), (fps ++ [fp])[m]? = some fm → fps[m]? = some fm ∨ (m = fps.length ∧ fm = fp) := fun m fm hm => by
      by_cases hl : m < fps.length
      · rw [List.getElem?_append_left hl] at hm; exact .inl hm
      · have : m = fps.length := by have := (List.getElem?_eq_some_iff.mp hm).1; rw [List.length_append] at this; simp at this; omega
        subst this
        rw [List.getElem?_append_right (Nat.le_refl _), Nat.sub_self] at hm
        cases hm; exact .inr ⟨rfl, rfl⟩
    rcases cs i fq hq with z | ⟨z1, z2⟩
    · rcases cs j fr hr with y | ⟨y1, y2⟩
      · exact k3 i j fq fr hij z y a ha hb
      · subst y2
        obtain ⟨d, hd⟩ := dom i fq z a ha
        rw [h2 a hb] at hd; cases hd
    · subst z2
      rcases cs j fr hr with y | ⟨y1, y2⟩
      · obtain ⟨d, hd⟩ := dom j fr y a hb
        rw [h2 a ha] at hd; cases hd
      · exact hij (by omega)
theorem GS.take {Ps : List As} {G : GD} (h : GS Ps G) (n : Nat) : GS (Ps.take n) G := by
  obtain ⟨fps, k1, k2, k3⟩ := h
  refine ⟨fps.take n, by rw [List.length_take, List.length_take, k1], fun i P fp hP hf => ?_, fun i j fp fq hij hf hq => ?_⟩
  · rw [List.getElem?_take] at hP hf
    split at hP
    · rename_i hi
      rw [if_pos hi] at hf
      exact k2 i P fp hP hf
    · cases hP
  · rw [List.getElem?_take] at hf hq
    split at hf
    · split at hq
      · exact k3 i j fp fq hij hf hq
      · cases hq
    · cases hf
inductive Fld where
  | sh (d : D) | mu (ds : List D)
inductive FL (G : GD) : List Fld → List D → List Addr → Prop
  | nil : FL G [] [] []
  | sh {d : D} {fs : List Fld} {ds : List D} {as : List Addr} (h : FL G fs ds as) : FL G (.sh d :: fs) (d :: ds) as
  | mu {l : List D} {a : Addr} {fs : List Fld} {ds : List D} {as : List Addr} (ha : G a = some (.lst l)) (h : FL G fs ds as) : FL G (.mu l :: fs) (.adr a :: ds) (a :: as)
theorem FL.loc {G G' : GD} {fs : List Fld} {ds : List D} {as : List Addr} (h : FL G fs ds as) (k : ∀ a ∈ as, G' a = G a) : FL G' fs ds as := by
  induction h with
  | nil => exact .nil
  | sh _ ih => exact .sh (ih k)
  | mu ha _ ih => exact .mu (by rw [k _ List.mem_cons_self]; exact ha) (ih fun a h => k a (List.mem_cons_of_mem _ h))
theorem FL.dom {G : GD} {fs : List Fld} {ds : List D} {as : List Addr} (h : FL G fs ds as) : ∀ a ∈ as, ∃ d, G a = some d := by
  induction h with
  | nil => intro a h; cases h
  | sh _ ih => exact ih
  | mu ha _ ih =>
    intro a h
    rcases List.mem_cons.mp h with rfl | h
    · exact ⟨_, ha⟩
    · exact ih a h
theorem FL.len {G : GD} {fs : List Fld} {ds : List D} {as : List Addr} (h : FL G fs ds as) : fs.length = ds.length := by
  induction h with
  | nil => rfl
  | sh _ ih => rw [List.length_cons, List.length_cons, ih]
  | mu _ _ ih => rw [List.length_cons, List.length_cons, ih]
def obA (C o : Addr) (ns : List Str) (fs : List Fld) : As := fun fp G => ∃ ds as, fp = o :: as ∧ (o :: as).Nodup ∧ ns.length = fs.length ∧ G o = some (.obj C ns ds) ∧ FL G fs ds as
theorem obA_ok (C o : Addr) (ns : List Str) (fs : List Fld) : AOk (obA C o ns fs) := by
  refine ⟨?_, ?_⟩
  · rintro fp G ⟨ds, as, rfl, _, _, h1, h2⟩ a ha
    rcases List.mem_cons.mp ha with rfl | ha
    · exact ⟨_, h1⟩
    · exact h2.dom a ha
  · rintro fp G G' ⟨ds, as, rfl, hn, hl, h1, h2⟩ h
    exact ⟨ds, as, rfl, hn, hl, by rw [h o List.mem_cons_self]; exact h1, h2.loc fun a ha => h a (List.mem_cons_of_mem _ ha)⟩
/-- a field that is shared data is read -/
theorem FL.get {G : GD} : ∀ {fs : List Fld} {ds : List D} {as : List Addr}, FL G fs ds as → ∀ {ns : List Str} {f : Str} {d : D}, (ns.zip fs).lookup f = some (.sh d) → (ns.zip ds).lookup f = some d
  | _, _, _, .nil, ns, f, d, h => by cases ns <;> simp at h
  | _, _, _, .sh k, [], f, d, h => by simp at h
  | _, _, _, .mu _ k, [], f, d, h => by simp at h
  | _, _, _, .sh k, n :: ns, f, d, h => by
    rw [List.zip_cons_cons, List.lookup_cons] at h ⊢
    cases e : f == n with
    | true => rw [e] at h; cases h; rfl
    | false => rw [e] at h; exact k.get h
  | _, _, _, .mu _ k, n :: ns, f, d, h => by
    rw [List.zip_cons_cons, List.lookup_cons] at h ⊢
    cases e : f == n with
    | true => rw [e] at h; cases h
    | false => rw [e] at h; exact k.get h
/-- fields with a new one -/
def putFl (f : Str) (x : Fld) : List Str → List Fld → List Fld
  | g :: r, y :: fs => if g = f then x :: fs else y :: putFl f x r fs
  | _, _ => [x]
/-- a list of an own field is known by its address; it may be changed -/
theorem FL.mut {G : GD} : ∀ {fs : List Fld} {ds : List D} {as : List Addr}, FL G fs ds as → as.Nodup → ∀ {ns : List Str} {f : Str} {l : List D}, (ns.zip fs).lookup f = some (.mu l) → ∃ a ∈ as, (ns.zip ds).lookup f = some (.adr a) ∧ G a = some (.lst l) ∧ ∀ l', FL (updG G a (.lst l')) (putFl f (.mu l') ns fs) ds as
  | _, _, _, .nil, _, ns, f, l, h => by cases ns <;> simp at h
  | _, _, _, .sh k, _, [], f, l, h => by simp at h
  | _, _, _, .mu _ k, _, [], f, l, h => by simp at h
  | _, _, _, .sh (d := d) k, hn, n :: ns, f, l, h => by
    rw [List.zip_cons_cons, List.lookup_cons] at h
    cases e : f == n with
    | true => rw [e] at h; cases h
    | false =>
      rw [e] at h
      obtain ⟨a, ha, h1, h2, h3⟩ := k.mut hn h
      refine ⟨a, ha, by rw [List.zip_cons_cons, List.lookup_cons, e]; exact h1, h2, fun l' => ?_⟩
      unfold putFl
      rw [if_neg (fun z => by rw [z, beq_self_eq_true] at e; cases e)]
      exact .sh (h3 l')
  | _, _, _, .mu (a := a0) ha0 k, hn, n :: ns, f, l, h => by
    obtain ⟨n1, n2⟩ := List.nodup_cons.mp hn
    rw [List.zip_cons_cons, List.lookup_cons] at h
    cases e : f == n with
    | true =>
      rw [e] at h; cases h
      refine ⟨a0, List.mem_cons_self, by rw [List.zip_cons_cons, List.lookup_cons, e], ha0, fun l' => ?_⟩
      unfold putFl
      rw [if_pos (eq_of_beq e).symm]
      exact .mu updG_same (k.loc fun b hb => updG_ne fun z => n1 (z ▸ hb))
    | false =>
      rw [e] at h
      obtain ⟨a, ha, h1, h2, h3⟩ := k.mut n2 h
      refine ⟨a, List.mem_cons_of_mem _ ha, by rw [List.zip_cons_cons, List.lookup_cons, e]; exact h1, h2, fun l' => ?_⟩
      unfold putFl
      rw [if_neg (fun z => by rw [z, beq_self_eq_true] at e; cases e)]
      have hne : a0 ≠ a := fun z => n1 (by rw [z]; exact ha)
      exact .mu (by rw [updG_ne hne]; exact ha0) (h3 l')
/-- a field gets shared data, or a list that is new -/
theorem FL.put {G : GD} : ∀ {fs : List Fld} {ds : List D} {as : List Addr}, FL G fs ds as → as.Nodup → ∀ {ns : List Str}, ns.length = fs.length → ∀ (f : Str) (x : Fld) (dx : D) (ax : List Addr), FL G [x] [dx] ax → (∀ a ∈ ax, a ∉ as) → ∃ bs, FL G (putFl f x ns fs) (putAD f dx ns ds) bs ∧ bs.Nodup ∧ ∀ a ∈ bs, a ∈ as ∨ a ∈ ax
  | _, _, _, .nil, _, [], _, f, x, dx, ax, hx, _ => ⟨ax, hx, by
      cases hx with
      | sh h => cases h; exact List.nodup_nil
      | mu _ h => cases h; simp, fun a h => .inr h⟩
  | _, _, _, .nil, _, _ :: _, hl, _, _, _, _, _, _ => nomatch hl
  | _, _, _, .sh _, _, [], hl, _, _, _, _, _, _ => nomatch hl
  | _, _, _, .mu _ _, _, [], hl, _, _, _, _, _, _ => nomatch hl
  | _, _, _, .sh (as := as) k, hn, n :: ns, hl, f, x, dx, ax, hx, hd => by
    unfold putFl putAD
    by_cases e : n = f
    · rw [if_pos e, if_pos e]
      cases hx with
      | sh h => cases h; exact ⟨as, .sh k, hn, fun a h => .inl h⟩
      | mu ha h =>
        cases h
        rename_i a0
        exact ⟨a0 :: as, .mu ha k, List.nodup_cons.mpr ⟨hd a0 (by simp), hn⟩, fun a h => by
          rcases List.mem_cons.mp h with rfl | h
          · exact .inr (by simp)
          · exact .inl h⟩
    · rw [if_neg e, if_neg e]
      obtain ⟨bs, b1, b2, b3⟩ := k.put hn (Nat.succ.inj hl) f x dx ax hx hd
      exact ⟨bs, .sh b1, b2, b3⟩
  | _, _, _, .mu (as := as) (a := a1) ha1 k, hn, n :: ns, hl, f, x, dx, ax, hx, hd => by
    obtain ⟨n1, n2⟩ := List.nodup_cons.mp hn
    have hd' : ∀ a ∈ ax, a ∉ as := fun a h z => hd a h (List.mem_cons_of_mem _ z)
    unfold putFl putAD
    by_cases e : n = f
    · rw [if_pos e, if_pos e]
      cases hx with
      | sh h => cases h; exact ⟨as, .sh k, n2, fun a h => .inl (List.mem_cons_of_mem _ h)⟩
      | mu ha h =>
        cases h
        rename_i a0
        exact ⟨a0 :: as, .mu ha k, List.nodup_cons.mpr ⟨hd' a0 (by simp), n2⟩, fun a h => by
          rcases List.mem_cons.mp h with rfl | h
          · exact .inr (by simp)
          · exact .inl (List.mem_cons_of_mem _ h)⟩
    · rw [if_neg e, if_neg e]
      obtain ⟨bs, b1, b2, b3⟩ := k.put n2 (Nat.succ.inj hl) f x dx ax hx hd'
      refine ⟨a1 :: bs, .mu ha1 b1, List.nodup_cons.mpr ⟨fun z => ?_, b2⟩, fun a h => ?_⟩
      · rcases b3 a1 z with y | y
        · exact n1 y
        · exact hd a1 y List.mem_cons_self
      · rcases List.mem_cons.mp h with rfl | h
        · exact .inl List.mem_cons_self
        · exact (b3 a h).imp (List.mem_cons_of_mem _) id
open Out (Rt)
section
variable {X : Cy} {e a b c o : Expr} {es : List Expr} {st : Stmt} {sts rest : List Stmt} {r : Env2} {G : GD} {pos apos p0 : Pos} {D0 : EndsD} {σT A R : Type}
theorem obA.own {C p : Addr} {ns : List Str} {fs : List Fld} {fp : List Addr} (h : obA C p ns fs fp G) : ∃ ds, G p = some (.obj C ns ds) := let ⟨ds, _, _, _, _, h1, _⟩ := h; ⟨ds, h1⟩
/-- self.f, shared data -/
theorem we_fldA {f : Str} {C : Addr} {ns : List Str} {fs : List Fld} {d : D} {Q : Res → Env2 → GD → Prop} (c : Cls X.K C) (n : NoAttr X.K C f) (hl : (ns.zip fs).lookup f = some (.sh d)) (h : WE X e r G fun x r1 G1 => ∃ p fp, x = .sh (.adr p) ∧ obA C p ns fs fp G1 ∧ Q (.sh d) r1 G1)
    (hb : attributeBase e f X.env (eval e X.env) = eval e X.env := by rfl) : WE X (.Attribute e f pos) r G Q :=
  we_fldO (h.mono fun x r1 G1 ⟨p, fp, hx, hP, q⟩ => by
    obtain ⟨ds, as, _, _, _, hG, hF⟩ := hP
    exact ⟨p, C, ns, ds, d, hx, hG, c, n, hF.get hl, q⟩) hb
/-- self.f, an own list -/
theorem we_fldM {f : Str} {C : Addr} {ns : List Str} {fs : List Fld} {l : List D} {Q : Res → Env2 → GD → Prop} (c : Cls X.K C) (n : NoAttr X.K C f) (hl : (ns.zip fs).lookup f = some (.mu l)) (h : WE X e r G fun x r1 G1 => ∃ p fp, x = .sh (.adr p) ∧ obA C p ns fs fp G1 ∧
      ∀ a, G1 a = some (.lst l) → (∀ l', obA C p ns (putFl f (.mu l') ns fs) fp (updG G1 a (.lst l')) ∧ Frm fp G1 fp (updG G1 a (.lst l'))) → Q (.sh (.adr a)) r1 G1)
    (hpl : ∀ x, (putFl f x ns fs).length = fs.length := by intro _; rfl) (hb : attributeBase e f X.env (eval e X.env) = eval e X.env := by rfl) : WE X (.Attribute e f pos) r G Q :=
  we_fldO (h.mono fun x r1 G1 ⟨p, fp, hx, hP, q⟩ => by
    obtain ⟨ds, as, rfl, hnd, hln, hG, hF⟩ := hP
    obtain ⟨n1, n2⟩ := List.nodup_cons.mp hnd
    obtain ⟨a, ha, h1, h2, h3⟩ := hF.mut n2 hl
    have hpa : p ≠ a := fun z => n1 (z ▸ ha)
    refine ⟨p, C, ns, ds, .adr a, hx, hG, c, n, h1, q a h2 fun l' => ⟨⟨ds, as, rfl, hnd, by rw [hpl]; exact hln, by rw [updG_ne hpa]; exact hG, h3 l'⟩, fun b hb _ => updG_ne fun z => hb ?_, fun b hb => .inl hb⟩⟩
    rw [z]; exact List.mem_cons_of_mem _ ha) hb
/-- self.f = e, shared data -/
theorem ws_fldA {f : Str} {C : Addr} {ns : List Str} {fs : List Fld} (c : Cls X.K C) (n : NoAttr X.K C f) (hn : ns.length < 1000) (h : WE X e r G fun y r1 G1 => ∃ d r2, fz r1 y = some (d, r2) ∧ WE X o r2 G1 fun x r3 G3 => ∃ p fp, x = .sh (.adr p) ∧ obA C p ns fs fp G3 ∧
      ∀ fp' G', obA C p (putA f ns) (putFl f (.sh d) ns fs) fp' G' → Frm fp G3 fp' G' → D0.nx r3 G')
    (hs : swapsWith e (some (.Attribute o f apos)) pos.line X.env = pure false := by rfl) : WS X (.Assign [.Attribute o f apos] e pos) r G D0 :=
  ws_fldO (h.mono fun y r1 G1 ⟨d, r2, q1, h2⟩ => ⟨d, r2, q1, h2.mono fun x r3 G3 ⟨p, fp, hx, hP, k⟩ => by
    obtain ⟨ds, as, rfl, hnd, hln, hG, hF⟩ := hP
    obtain ⟨n1, n2⟩ := List.nodup_cons.mp hnd
    have hF' : FL (updG G3 p (.obj C (putA f ns) (putAD f d ns ds))) fs ds as := hF.loc fun a ha => updG_ne fun z => n1 (z ▸ ha)
    obtain ⟨bs, b1, b2, b3⟩ := hF'.put n2 hln f (.sh d) d [] (.sh .nil) (fun a h => by cases h)
    have hbs : ∀ a ∈ bs, a ∈ as := fun a h => (b3 a h).elim id fun z => by cases z
    refine ⟨p, C, ns, ds, hx, hG, c, n, hn, k (p :: bs) _ ⟨_, bs, rfl, List.nodup_cons.mpr ⟨fun z => n1 (hbs p z), b2⟩, ?_, updG_same, b1⟩ ⟨fun b hb _ => updG_ne fun z => hb (by simp [z]), fun b hb => ?_⟩⟩
    · have e1 : (putA f ns).length = (putAD f d ns ds).length := by
        have : ∀ (ns : List Str) (ds : List D), ns.length = ds.length → (putA f ns).length = (putAD f d ns ds).length := by
          intro ns
          induction ns with
          | nil => intro ds h; cases ds with
            | nil => rfl
            | cons _ _ => cases h
          | cons m ns ih =>
            intro ds h
            cases ds with
            | nil => cases h
            | cons x ds =>
              unfold putA putAD
              by_cases e : m = f
              · rw [if_pos e, if_pos e]; exact h
              · rw [if_neg e, if_neg e, List.length_cons, List.length_cons, ih ds (Nat.succ.inj h)]
        exact this ns ds (by rw [hln, hF.len])
      rw [e1, b1.len]
    · rcases List.mem_cons.mp hb with rfl | hb
      · exact .inl List.mem_cons_self
      · exact .inl (List.mem_cons_of_mem _ (hbs b hb))⟩) hs
theorem putA_len (f : Str) (d : D) : ∀ (ns : List Str) (ds : List D), ns.length = ds.length → (putA f ns).length = (putAD f d ns ds).length
  | [], [], _ => rfl
  | [], _ :: _, h => nomatch h
  | _ :: _, [], h => nomatch h
  | m :: ns, x :: ds, h => by
    unfold putA putAD
    by_cases e : m = f
    · rw [if_pos e, if_pos e]; exact h
    · rw [if_neg e, if_neg e, List.length_cons, List.length_cons, putA_len f d ns ds (Nat.succ.inj h)]
/-- self.f = a new list that stays one's own -/
theorem ws_fldN {f : Str} {C : Addr} {ns : List Str} {fs : List Fld} (c : Cls X.K C) (n : NoAttr X.K C f) (hn : ns.length < 1000) (h : WE X e r G fun y r1 G1 => ∃ l, y = .fr (.lst l) ∧ ∀ a, G1 a = none → WE X o r1 (updG G1 a (.lst l)) fun x r3 G3 => ∃ p fp, x = .sh (.adr p) ∧ G3 = updG G1 a (.lst l) ∧ obA C p ns fs fp G1 ∧
      ∀ fp' G', obA C p (putA f ns) (putFl f (.mu l) ns fs) fp' G' → Frm fp G1 fp' G' → D0.nx r3 G')
    (hs : swapsWith e (some (.Attribute o f apos)) pos.line X.env = pure false := by rfl) : WS X (.Assign [.Attribute o f apos] e pos) r G D0 :=
  ws_fldO (we_open (h.mono fun y r1 G1 ⟨l, hy, h2⟩ => ⟨.lst l, hy, fun a ha => ⟨.adr a, r1, rfl, (h2 a ha).mono fun x r3 G3 ⟨p, fp, hx, hG3, hP, k⟩ => by
    subst hG3
    obtain ⟨ds, as, rfl, hnd, hln, hG, hF⟩ := hP
    obtain ⟨n1, n2⟩ := List.nodup_cons.mp hnd
    have hpa : p ≠ a := fun z => by rw [z, ha] at hG; cases hG
    have haas : a ∉ as := fun z => by obtain ⟨d, hd⟩ := hF.dom a z; rw [ha] at hd; cases hd
    have hF' : FL (updG (updG G1 a (.lst l)) p (.obj C (putA f ns) (putAD f (.adr a) ns ds))) fs ds as := hF.loc fun b hb => by
      have q1 : b ≠ p := fun z => n1 (by rw [← z]; exact hb)
      have q2 : b ≠ a := fun z => haas (by rw [← z]; exact hb)
      rw [updG_ne q1, updG_ne q2]
    obtain ⟨bs, b1, b2, b3⟩ := hF'.put n2 hln f (.mu l) (.adr a) [a] (.mu (by rw [updG_ne (fun z => hpa z.symm), updG_same]) .nil) (fun b h => by rw [List.mem_singleton] at h; subst h; exact haas)
    refine ⟨p, C, ns, ds, hx, by rw [updG_ne hpa]; exact hG, c, n, hn, k (p :: bs) _ ⟨_, bs, rfl, List.nodup_cons.mpr ⟨fun z => ?_, b2⟩, ?_, updG_same, b1⟩ ⟨fun b hb hg => ?_, fun b hb => ?_⟩⟩
    · rcases b3 p z with y | y
      · exact n1 y
      · rw [List.mem_singleton] at y; exact hpa y
    · rw [putA_len f (.adr a) ns ds (by rw [hln, hF.len]), b1.len]
    · have hba : b ≠ a := fun z => hg (by rw [z]; exact ha)
      rw [updG_ne (fun z => hb (by simp [z])), updG_ne hba]
    · rcases List.mem_cons.mp hb with rfl | hb
      · exact .inl List.mem_cons_self
      · rcases b3 b hb with y | y
        · exact .inl (List.mem_cons_of_mem _ y)
        · rw [List.mem_singleton] at y; subst y; exact .inr ha⟩⟩)) hs
theorem FL.frz {G : GD} : ∀ {fs : List Fld} {ds : List D} {as : List Addr}, FL G fs ds as → as.Nodup → ∀ {ns : List Str} {f : Str} {l : List D}, (ns.zip fs).lookup f = some (.mu l) → ∀ (d : D), ∃ a ∈ as, (ns.zip ds).lookup f = some (.adr a) ∧ G a = some (.lst l) ∧ ∃ bs, FL G (putFl f (.sh d) ns fs) (putAD f d ns ds) bs ∧ bs.Nodup ∧ (∀ b ∈ bs, b ∈ as) ∧ a ∉ bs
  | _, _, _, .nil, _, ns, f, l, h, _ => by cases ns <;> simp at h
  | _, _, _, .sh k, _, [], f, l, h, _ => by simp at h
  | _, _, _, .mu _ k, _, [], f, l, h, _ => by simp at h
  | _, _, _, .sh (d := d0) k, hn, n :: ns, f, l, h, d => by
    rw [List.zip_cons_cons, List.lookup_cons] at h
    cases e : f == n with
    | true => rw [e] at h; cases h
    | false =>
      rw [e] at h
      obtain ⟨a, ha, h1, h2, bs, h3, h4, h5, h6⟩ := k.frz hn h d
      refine ⟨a, ha, by rw [List.zip_cons_cons, List.lookup_cons, e]; exact h1, h2, bs, ?_, h4, h5, h6⟩
      unfold putFl putAD
      rw [if_neg (fun z => by rw [z, beq_self_eq_true] at e; cases e), if_neg (fun z => by rw [z, beq_self_eq_true] at e; cases e)]
      exact .sh h3
  | _, _, _, .mu (a := a0) (as := as) ha0 k, hn, n :: ns, f, l, h, d => by
    obtain ⟨n1, n2⟩ := List.nodup_cons.mp hn
    rw [List.zip_cons_cons, List.lookup_cons] at h
    cases e : f == n with
    | true =>
      rw [e] at h; cases h
      refine ⟨a0, List.mem_cons_self, by rw [List.zip_cons_cons, List.lookup_cons, e], ha0, as, ?_, n2, fun b hb => List.mem_cons_of_mem _ hb, n1⟩
      unfold putFl putAD
      rw [if_pos (eq_of_beq e).symm, if_pos (eq_of_beq e).symm]
      exact .sh k
    | false =>
      rw [e] at h
      obtain ⟨a, ha, h1, h2, bs, h3, h4, h5, h6⟩ := k.frz n2 h d
      refine ⟨a, List.mem_cons_of_mem _ ha, by rw [List.zip_cons_cons, List.lookup_cons, e]; exact h1, h2, a0 :: bs, ?_, List.nodup_cons.mpr ⟨fun z => n1 (h5 _ z), h4⟩, fun b hb => ?_, fun z => ?_⟩
      · unfold putFl putAD
        rw [if_neg (fun z => by rw [z, beq_self_eq_true] at e; cases e), if_neg (fun z => by rw [z, beq_self_eq_true] at e; cases e)]
        exact .mu ha0 h3
      · rcases List.mem_cons.mp hb with rfl | hb
        · exact List.mem_cons_self
        · exact List.mem_cons_of_mem _ (h5 b hb)
      · rcases List.mem_cons.mp z with z | z
        · exact n1 (z ▸ ha)
        · exact h6 z
/-- of a method: the object's state is threaded -/
def FMO (cx : Nat → Addr) (C : Addr) (ns : List Str) {σT A R : Type} (fl : σT → List Fld) (en : A → List D) (er : R → Res) (f : σT → A → Out (R × σT)) : FSp := fun ds G post px => ∃ (s : σT) (a : A) (o : Addr) (fp : List Addr), ds = .adr o :: en a ∧ obA C o ns (fl s) fp G ∧
  (f s a).sat (fun v => ∀ fp' G', obA C o ns (fl v.2) fp' G' → Frm fp G fp' G' → post (er v.1) G') (fun m => ∀ fp' G', obA C o ns (fl s) fp' G' → Frm fp G fp' G' → px (xnOf cx m) G')
/-- of an __init__ -/
def FIO (cx : Nat → Addr) (C : Addr) (ns : List Str) {σT A : Type} (fl : σT → List Fld) (en : A → List D) (f : A → Out σT) : FSp := fun ds G post px => ∃ (a : A) (o dx : Addr) (G0 : GD), ds = .adr o :: en a ∧ G = updG (updG G0 dx (.xdo o false)) o (.obj C [] []) ∧ G0 o = none ∧ G0 dx = none ∧ dx ≠ o ∧
  (f a).sat (fun s => ∀ fp' G', obA C o ns (fl s) fp' G' → Frm [] G0 fp' G' → post (.sh .non) G') (fun m => ∀ G', (∀ b, G0 b ≠ none → G' b = G0 b) → px (xnOf cx m) G')
theorem obA_new {C o dx : Addr} {G0 : GD} : obA C o [] [] [o] (updG (updG G0 dx (.xdo o false)) o (.obj C [] [])) := ⟨[], [], rfl, by simp, rfl, updG_same, .nil⟩
theorem frm_new {C o dx : Addr} {G0 : GD} (h1 : G0 o = none) (h2 : G0 dx = none) : Frm [] G0 [o] (updG (updG G0 dx (.xdo o false)) o (.obj C [] [])) :=
  ⟨fun b _ hb => by
    have q1 : b ≠ o := fun z => hb (by rw [z]; exact h1)
    have q2 : b ≠ dx := fun z => hb (by rw [z]; exact h2)
    rw [updG_ne q1, updG_ne q2], fun b hb => by rw [List.mem_singleton] at hb; subst hb; exact .inr h1⟩
end
open Out (Rt)
section
variable {X : Cy} {e a b c o : Expr} {es : List Expr} {st : Stmt} {sts rest : List Stmt} {r : Env2} {G : GD} {pos apos cpos p0 : Pos} {D0 : EndsD} {σT A R α : Type} {cx : Nat → Addr}
theorem WA.mono {Q Q' : List D → Env2 → GD → Prop} (h : WA X es r G Q) (k : ∀ x r' G', Q x r' G' → Q' x r' G') : WA X es r G Q' := fun F0 T F H σ lk S =>
  (h F0 T F H σ lk S).mono fun _ _ ⟨x, r', G', F', a, b, c, q⟩ => ⟨x, r', G', F', a, b, c, k _ _ _ q⟩
theorem we_appendG {f : α → D} {Q : Res → Env2 → GD → Prop}
    (h : WE X o r G fun x r1 G1 => ∃ g xs, x = .sh (.adr g) ∧ G1 g = some (.lst (List.map f xs)) ∧ WE X e r1 G1 fun y r2 G2 => ∃ z r3, fz r2 y = some (f z, r3) ∧ G2 g = some (.lst (List.map f xs)) ∧ xs.length < LIM ∧ Q (.sh .non) r3 (updG G2 g (.lst ((xs ++ [z]).map f))))
    (hbase : attributeBase o "append" X.env (eval o X.env) = eval o X.env := by rfl)
    (hfew : ((backTo cpos (starEach [e] X.env)).all (fun x => !x.1) && (backToKw cpos (keywordEach [] X.env)).all (fun x => x.1.isSome) && decide (([e] : List Expr).length + ([] : List Keyword).length + (if ([] : List Keyword).isEmpty then 0 else 1) < 30)) = true := by rfl)
    (hline : (apos.endLine == cpos.line) = true := by rfl) (hs : starEach [e] X.env = (false, eval e X.env) :: starEach [] X.env := by rfl) (hplain : (backTo cpos (starEach [] X.env)).any (·.1) = false := by rfl) :
    WE X (.Call (.Attribute o "append" apos) [e] [] cpos) r G Q :=
  we_m1G PySem.F.plainAttrs_list PySem.F.slot_list_append PySem.F.type_list_append (h.mono fun x r1 G1 ⟨g, xs, h1, h2, h3⟩ => ⟨g, _, h1, h2, h3.mono fun y r2 G2 ⟨z, r3, k1, k2, k3, k4⟩ => ⟨f z, r3, _, k1, k2, mw_append (by rw [List.length_map]; exact k3) (by rw [List.map_append] at k4; exact k4)⟩⟩) hbase hfew hline hs hplain
/-- a method that changes nothing -/
def FCO (cx : Nat → Addr) (C : Addr) (ns : List Str) {σT A R : Type} (fl : σT → List Fld) (en : A → List D) (er : R → Res) (f : σT → A → Out R) : FSp := fun ds G post px => ∃ (s : σT) (a : A) (o : Addr) (fp : List Addr), ds = .adr o :: en a ∧ obA C o ns (fl s) fp G ∧
  (f s a).sat (fun v => post (er v) G) (fun m => px (xnOf cx m) G)
theorem we_methC {m : Str} {C : Addr} {k j : Nat} {ps : List Str} {pl : Sem Bool} {ns : List Str} {fl : σT → List Fld} {en : A → List D} {er : R → Res} {f : σT → A → Out R} {Q : Res → Env2 → GD → Prop} (tk : X.Tk) (c : Cls X.K C) (p : MethD X.prog X.w X.K X.mg X.base C m k ps (FCO cx C ns fl en er f)) (hr : Room j X.A) (nm : (ns.all fun n => !(m == n)) = true)
    (h : WE X o r G fun x r1 G1 => ∃ s q fp, x = .sh (.adr q) ∧ obA C q ns (fl s) fp G1 ∧ WA X (e :: es) r1 G1 fun as r2 G2 => ∃ a fp2, as = en a ∧ obA C q ns (fl s) fp2 G2 ∧ (f s a).sat (fun v => Q (er v) r2 G2) (fun xm => X.QX (xnOf cx xm) r2 G2)) (hj : k ≤ j := by omega)
    (hst : starEach (e :: es) X.env = (false, eval e X.env) :: starEach es X.env := by rfl) (hpl : (backTo pos (starEach es X.env)).any (·.1) = false := by rfl)
    (ht : eval (.Call (.Attribute o m apos) (e :: es) [] pos) X.env = (do
      let ov ← eval o X.env
      standAt apos.atName
      let (f, first) ← holding [ov] (getMethod ov m pl)
      callWith pos f first (backTo pos (starEach (e :: es) X.env)) (backToKw pos (keywordEach [] X.env))) := by rfl) : WE X (.Call (.Attribute o m apos) (e :: es) [] pos) r G Q :=
  we_methO tk c p hr (h.mono fun x r1 G1 ⟨s, q, fp, hx, hP, h2⟩ => by
    obtain ⟨ds, hG⟩ := hP.own
    exact ⟨q, ns, ds, hx, hG, nm, WA.mono h2 fun as r2 G2 ⟨a, fp2, ha, hP2, hs⟩ => by subst ha; exact ⟨s, a, q, fp2, rfl, hP2, hs⟩⟩) hj hst hpl ht
theorem we_propC {m : Str} {C : Addr} {k j : Nat} {ns : List Str} {fl : σT → List Fld} {er : R → Res} {f : σT → Unit → Out R} {Q : Res → Env2 → GD → Prop} (c : Cls X.K C) (p : PropD X.prog X.w X.K X.mg X.base C m k (FCO cx C ns fl (fun _ => []) er f)) (hr : Room j X.A)
    (h : WE X e r G fun x r1 G1 => ∃ s q fp, x = .sh (.adr q) ∧ obA C q ns (fl s) fp G1 ∧ (f s ()).sat (fun v => Q (er v) r1 G1) (fun _ => False)) (hj : k + 1 ≤ j := by omega)
    (hb : attributeBase e m X.env (eval e X.env) = eval e X.env := by rfl) : WE X (.Attribute e m pos) r G Q :=
  we_propO c p hr (h.mono fun x r1 G1 ⟨s, q, fp, hx, hP, hs⟩ => by
    obtain ⟨ds, hG⟩ := hP.own
    exact ⟨q, ns, ds, hx, hG, s, (), q, fp, rfl, hP, hs⟩) hj hb
/-- a method that changes the object -/
theorem we_methM {m : Str} {C : Addr} {k j : Nat} {ps : List Str} {pl : Sem Bool} {ns : List Str} {fl : σT → List Fld} {en : A → List D} {er : R → Res} {f : σT → A → Out (R × σT)} {Q : Res → Env2 → GD → Prop} (tk : X.Tk) (c : Cls X.K C) (p : MethD X.prog X.w X.K X.mg X.base C m k ps (FMO cx C ns fl en er f)) (hr : Room j X.A) (nm : (ns.all fun n => !(m == n)) = true)
    (h : WE X o r G fun x r1 G1 => ∃ s q fp, x = .sh (.adr q) ∧ obA C q ns (fl s) fp G1 ∧ WA X (e :: es) r1 G1 fun as r2 G2 => ∃ a fp2, as = en a ∧ obA C q ns (fl s) fp2 G2 ∧
      (f s a).sat (fun v => ∀ fp' G', obA C q ns (fl v.2) fp' G' → Frm fp2 G2 fp' G' → Q (er v.1) r2 G') (fun xm => ∀ fp' G', obA C q ns (fl s) fp' G' → Frm fp2 G2 fp' G' → X.QX (xnOf cx xm) r2 G')) (hj : k ≤ j := by omega)
    (hst : starEach (e :: es) X.env = (false, eval e X.env) :: starEach es X.env := by rfl) (hpl : (backTo pos (starEach es X.env)).any (·.1) = false := by rfl)
    (ht : eval (.Call (.Attribute o m apos) (e :: es) [] pos) X.env = (do
      let ov ← eval o X.env
      standAt apos.atName
      let (f, first) ← holding [ov] (getMethod ov m pl)
      callWith pos f first (backTo pos (starEach (e :: es) X.env)) (backToKw pos (keywordEach [] X.env))) := by rfl) : WE X (.Call (.Attribute o m apos) (e :: es) [] pos) r G Q :=
  we_methO tk c p hr (h.mono fun x r1 G1 ⟨s, q, fp, hx, hP, h2⟩ => by
    obtain ⟨ds, hG⟩ := hP.own
    exact ⟨q, ns, ds, hx, hG, nm, WA.mono h2 fun as r2 G2 ⟨a, fp2, ha, hP2, hs⟩ => by subst ha; exact ⟨s, a, q, fp2, rfl, hP2, hs⟩⟩) hj hst hpl ht
theorem we_methM0 {m : Str} {C : Addr} {k j : Nat} {ps : List Str} {pl : Sem Bool} {ns : List Str} {fl : σT → List Fld} {er : R → Res} {f : σT → Unit → Out (R × σT)} {Q : Res → Env2 → GD → Prop} (tk : X.Tk) (c : Cls X.K C) (p : MethD X.prog X.w X.K X.mg X.base C m k ps (FMO cx C ns fl (fun _ => []) er f)) (hr : Room j X.A) (nm : (ns.all fun n => !(m == n)) = true)
    (h : WE X o r G fun x r1 G1 => ∃ s q fp, x = .sh (.adr q) ∧ obA C q ns (fl s) fp G1 ∧ (f s ()).sat (fun v => ∀ fp' G', obA C q ns (fl v.2) fp' G' → Frm fp G1 fp' G' → Q (er v.1) r1 G') (fun xm => ∀ fp' G', obA C q ns (fl s) fp' G' → Frm fp G1 fp' G' → X.QX (xnOf cx xm) r1 G')) (hj : k ≤ j := by omega)
    (ht : eval (.Call (.Attribute o m apos) [] [] pos) X.env = (do
      let ov ← eval o X.env
      standAt apos.atName
      let (f, first) ← holding [ov] (getMethod ov m pl)
      callWith pos f first (backTo pos (starEach [] X.env)) (backToKw pos (keywordEach [] X.env))) := by rfl) : WE X (.Call (.Attribute o m apos) [] [] pos) r G Q :=
  we_methO0 tk c p hr (h.mono fun x r1 G1 ⟨s, q, fp, hx, hP, hs⟩ => by
    obtain ⟨ds, hG⟩ := hP.own
    exact ⟨q, ns, ds, hx, hG, nm, s, (), q, fp, rfl, hP, hs⟩) hj ht
/-- C(..) -/
theorem we_makeC {x : Str} {C : Addr} {k j : Nat} {ps : List Str} {ns : List Str} {fl : σT → List Fld} {en : A → List D} {f : A → Out σT} {Q : Res → Env2 → GD → Prop} (tk : X.Tk) (M : MakeO X.prog X.w X.K X.mg X.base x C k ps (FIO cx C ns fl en f)) (hr : Room j X.A) (hg : Gl X x)
    (h : WA X (e :: es) r G fun ds r1 G1 => ∃ a, ds = en a ∧ (f a).sat (fun s => ∀ p fp G', obA C p ns (fl s) fp G' → Frm [] G1 fp G' → Q (.sh (.adr p)) r1 G') (fun xm => ∀ G', (∀ b, G1 b ≠ none → G' b = G1 b) → X.QX (xnOf cx xm) r1 G')) (hj : k + 1 ≤ j := by omega)
    (hdb : (x == ("__debug__" : Str)) = false := by decide) (he : starEach (e :: es) X.env = (false, eval e X.env) :: starEach es X.env := by rfl) (hpl : (backTo pos (starEach es X.env)).any (·.1) = false := by rfl) : WE X (.Call (.Name x p0) (e :: es) [] pos) r G Q :=
  we_makeO tk M hr hg (WA.mono h fun ds r1 G1 ⟨a, ha, hs⟩ p dx h1 h2 h3 => by
    subst ha
    refine ⟨a, p, dx, G1, rfl, rfl, h1, h2, h3, hs.imp (fun s q fp' G' hP hF => ⟨rfl, q p fp' G' hP hF⟩) fun xm q => q⟩) hj hdb he hpl
end
open Out (Rt)
section
variable {X : Cy} {e a b c o : Expr} {es : List Expr} {st : Stmt} {sts rest : List Stmt} {r : Env2} {G : GD} {pos apos apos2 cpos p0 : Pos} {D0 : EndsD} {σT A R α : Type} {cx : Nat → Addr}
/-- self.f.append(e) -/
theorem we_appF {f : Str} {C : Addr} {ns : List Str} {fs : List Fld} {fe : α → D} {xs : List α} {Q : Res → Env2 → GD → Prop} (c : Cls X.K C) (n : NoAttr X.K C f) (hl : (ns.zip fs).lookup f = some (.mu (xs.map fe))) (hpl : ∀ x, (putFl f x ns fs).length = fs.length)
    (h : WE X o r G fun x r1 G1 => ∃ p fp, x = .sh (.adr p) ∧ obA C p ns fs fp G1 ∧ WE X e r1 G1 fun y r2 G2 => ∃ z r3, fz r2 y = some (fe z, r3) ∧ G2 = G1 ∧ xs.length < LIM ∧ ∀ G', obA C p ns (putFl f (.mu ((xs ++ [z]).map fe)) ns fs) fp G' → Frm fp G1 fp G' → Q (.sh .non) r3 G')
    (hb : attributeBase o f X.env (eval o X.env) = eval o X.env := by rfl) (hbase : attributeBase (.Attribute o f apos2) "append" X.env (eval (.Attribute o f apos2) X.env) = eval (.Attribute o f apos2) X.env := by rfl)
    (hfew : ((backTo cpos (starEach [e] X.env)).all (fun x => !x.1) && (backToKw cpos (keywordEach [] X.env)).all (fun x => x.1.isSome) && decide (([e] : List Expr).length + ([] : List Keyword).length + (if ([] : List Keyword).isEmpty then 0 else 1) < 30)) = true := by rfl)
    (hline : (apos.endLine == cpos.line) = true := by rfl) (hs : starEach [e] X.env = (false, eval e X.env) :: starEach [] X.env := by rfl) (hplain : (backTo cpos (starEach [] X.env)).any (·.1) = false := by rfl) :
    WE X (.Call (.Attribute (.Attribute o f apos2) "append" apos) [e] [] cpos) r G Q :=
  we_appendG (f := fe) (we_fldM c n hl (h.mono fun x r1 G1 ⟨p, fp, hx, hP, h2⟩ => ⟨p, fp, hx, hP, fun g hg hup => ⟨g, xs, rfl, hg, h2.mono fun y r2 G2 ⟨z, r3, k1, k2, k3, k4⟩ => by
    subst k2
    exact ⟨z, r3, k1, hg, k3, k4 _ (hup _).1 (hup _).2⟩⟩⟩) hpl hb) hbase hfew hline hs hplain
end
open Out (Rt)
open Out (Rt)
/-- it is only read -/
def FCOa (cx : Nat → Addr) (C : Addr) (ns : List Str) {σT A R : Type} (fl : σT → List Fld) (en : Addr → A → List D) (er : R → Res) (f : σT → A → Out R) : FSp := fun ds G post px => ∃ (s : σT) (a : A) (o : Addr) (fp : List Addr), ds = en o a ∧ obA C o ns (fl s) fp G ∧
  (f s a).sat (fun v => post (er v) G) (fun m => px (xnOf cx m) G)
open Out (Rt)
open Out (Rt)
def bhA (b g : Addr) (x : Bh) : As := fun fp G => fp = [b, g] ∧ g ≠ b ∧ G b = some (.lst [.int x.1.2.1, .adr g, .int x.1.2.2]) ∧ G g = some (.lst (x.1.1.map D.int))
theorem bhA_ok (b g : Addr) (x : Bh) : AOk (bhA b g x) := by
  refine ⟨?_, ?_⟩
  · rintro fp G ⟨rfl, _, h1, h2⟩ a ha
    rcases List.mem_cons.mp ha with rfl | ha
    · exact ⟨_, h1⟩
    · rw [List.mem_singleton] at ha; subst ha; exact ⟨_, h2⟩
  · rintro fp G G' ⟨rfl, hn, h1, h2⟩ h
    exact ⟨rfl, hn, by rw [h b (by simp)]; exact h1, by rw [h g (by simp)]; exact h2⟩
theorem bxH_self {b g : Addr} {x : Bh} {fp : List Addr} {G : GD} (h : bhA b g x fp G) : G = bxH G b g x := by
  obtain ⟨_, hn, h1, h2⟩ := h
  funext a
  unfold bxH
  by_cases e : a = b
  · subst e; rw [updG_same]; exact h1
  · rw [updG_ne e]
    by_cases e2 : a = g
    · subst e2; rw [updG_same]; exact h2
    · rw [updG_ne e2]
theorem GS.boxH {Ps : List As} {G : GD} (h : GS Ps G) (i : Nat) {b g : Addr} {x : Bh} (hi : Ps[i]? = some (bhA b g x)) : g ≠ b ∧ G = bxH G b g x ∧ ∀ x', GS (Ps.set i (bhA b g x')) (bxH G b g x') := by
  obtain ⟨fp, _, h1, h2⟩ := h.at i hi
  obtain ⟨hf, hn, k1, k2⟩ := id h1
  refine ⟨hn, bxH_self h1, fun x' => h2 _ [b, g] _ (bhA_ok b g x') ⟨rfl, hn, updG_same, ?_⟩ ⟨fun a ha _ => ?_, fun a ha => .inl (by rw [hf]; exact ha)⟩⟩
  · unfold bxH; rw [updG_ne hn, updG_same]
  · rw [hf] at ha
    unfold bxH
    rw [updG_ne (fun z => ha (by simp [z])), updG_ne (fun z => ha (by simp [z]))]
theorem GS.boxH0 {G0 : GD} {b g : Addr} (hn : g ≠ b) (x : Bh) : GS [bhA b g x] (bxH G0 b g x) := by
  refine ⟨[[b, g]], rfl, fun i P fp h h' => ?_, fun i j fp fq hij h h' => ?_⟩
  · cases i with
    | zero => cases h; cases h'; exact ⟨bhA_ok b g x, rfl, hn, updG_same, by unfold bxH; rw [updG_ne hn, updG_same]⟩
    | succ i => simp at h
  · cases i with
    | zero => cases j with
      | zero => exact absurd rfl hij
      | succ j => simp at h'
    | succ i => simp at h
/-- the table of a law's own code is a part, too -/
def tabA (P : Addr) (q : Str) : As := fun fp G => fp = [P] ∧ G P = some (.tab q)
theorem GS.tab {Ps : List As} {G : GD} (h : GS Ps G) (i : Nat) {P : Addr} {q : Str} (hi : Ps[i]? = some (tabA P q)) : G P = some (.tab q) := by
  obtain ⟨fp, _, h1, _⟩ := h.at i hi
  exact h1.2
open Out (Rt)
open Out (Rt)
section
variable {X : Cy} {e a b c o tg kx vx elt : Expr} {es ifs : List Expr} {st : Stmt} {sts rest body orelse : List Stmt} {r : Env2} {G : GD} {pos tpos apos cpos p0 : Pos} {D0 : EndsD} {α β γ σT ρ : Type}
theorem wb_forOH (is : List Nat) (env : σT → Env2) (gg : σT → GD) (en : α → D) (hp : PassesOwn (model X.prog X.w) X.A X.env X.xe) (hc : X.calm = true)
    (h : WI X tg e r G fun ds r2 G1 => ∃ (xs : List α) (s0 : σT) (f : σT → α → Out σT) (kk : σT → Out β) (Q : β → Prop) (E : Xm → Prop), ds = xs.map en ∧ Wk r2 (env s0) ∧ G1 = gg s0 ∧ ((Out.fold f xs s0).bind kk).sat Q E ∧
      (∀ (s : σT) (x : α) (Q' : σT → Prop), (f s x).sat Q' E → WG X tg (en x) (env s) (gg s) is fun r4 G4 => WB X body r4 G4 { D0 with nx := AtS env gg Q', ct := AtS env gg Q', bk := fun r1 G1 => WB X rest r1 G1 D0 }) ∧
      ∀ s, (kk s).sat Q E → WB X rest (env s) (gg s) D0) (hs : ∀ x, foldedSetIterable e X.env x = pure x := by intro _; rfl) : Hold (WB X (.For tg e body [] pos :: rest) r G D0) := ⟨wb_forO is env gg en hp hc h hs⟩
theorem ti_tupH {f : α → D} {Q : List D → Env2 → GD → Prop} (h : WE X e r G fun x r1 G1 => ∃ xs r2, fz r1 x = some (.tup (List.map f xs), r2) ∧ (xs.length ≤ LIM → Q (xs.map f) r2 G1)) : Hold (WI X tg e r G Q) := ⟨ti_tup h⟩
end
theorem PE.weak {X : Cx} {e : Expr} {t t' : TE} (h : PE X e t) (k : ∀ σ H Q, t' σ H Q → t σ H Q) : PE X e t' := ⟨fun pins s σ H Q I q => h.run pins s σ H Q I (k σ H Q q)⟩
open Out (Rt)
/-- a block's context from which the def's own state comes back, its slots as rl tells -/
def LamB (X : Cy) (scope : Scope) (rl : Env2) (Fa : Hp) (Y : Cy) : Prop :=
  ∃ (s : Shared) (H : Hp) (C : Addr) (cl : List (Str × Addr)) (fp : List Addr) (pins : List (Addr × Obj)) (σ0 : L2.St), Y = { X.toCx.blk s H scope (compEnvC scope cl C X.env) fp with F0 := Fa, T := X.T, QX := fun _ _ _ => False } ∧ Ex X.F0 Fa ∧ rl.length = σ0.length ∧
    (∀ (i : Nat) (d : D), rl[i]? = some (.sh d) → ∃ v, σ0[i]? = some (some v) ∧ Rep X.K Fa d v) ∧ ∀ (pins' : List (Addr × Obj)) (σ' : L2.St) (H' : Hp) (s' : Shared), Inv Y.toCx pins' σ' H' s' → Inv X.toCx pins σ0 H' s'
section
variable {X Y : Cy} {tg e elt : Expr} {ifs : List Expr} {r rl : Env2} {G : GD} {pos p : Pos} {Fa : Hp} {scope : Scope}
theorem LamB.k (h : LamB X scope rl Fa Y) : Y.K = X.K := by obtain ⟨_, _, _, _, _, _, _, rfl, _⟩ := h; rfl
theorem LamB.lk {F' T' : Hp} (h : LamB X scope rl Fa Y) (ef : Ex Fa F') (lk : Lk X F' T') : Lk Y F' T' := by
  obtain ⟨_, _, _, _, _, _, _, rfl, ex, _⟩ := h
  exact ⟨lk.t, ef, fun a o ho => (lk.ft a o ho).imp (fun z => ex _ _ z) id⟩
theorem LamB.tk (h : LamB X scope rl Fa Y) : Y.Tk := by
  obtain ⟨_, _, _, _, _, _, _, rfl, _⟩ := h
  exact takes0.imp fun _ _ _ _ ⟨_, _, _, _, _, _, z⟩ => z
end
open Out (Rt)
section
variable {X : Cy} {tg e elt : Expr} {ifs : List Expr} {sts : List Stmt} {r rl : Env2} {G : GD} {pos p : Pos} {D0 : EndsD} {scope : Scope}
theorem Bas.drop {K : PySem.W.Frag} {F0 T F H : Hp} {G G' : GD} (B : Bas K F0 T F G' H) (h : ∀ a d, G a = some d → G' a = some d) : Bas K F0 T F G H :=
  ⟨B.ff, B.ft, B.fh, fun a d q => B.gh a d (h a d q), fun a o q => B.fg a o (h a o q), fun a o q => B.gt a o (h a o q), B.tk⟩
theorem none_drop {G G' : GD} (h : ∀ a d, G a = some d → G' a = some d) {p : Addr} (q : G' p = none) : G p = none := by
  cases e : G p with
  | none => rfl
  | some d => rw [h p d e] at q; cases q
theorem RtOk.drop {K : PySem.W.Frag} {T F H : Hp} {G G' : GD} (h : ∀ a d, G a = some d → G' a = some d) {x : Res} {v : V} (k : RtOk K T F G' H x v) : RtOk K T F G H x v := by
  cases x with
  | sh d => exact k
  | fr d => obtain ⟨p, k1, k2, k3, k4, k5⟩ := k; exact ⟨p, k1, k2, k3, none_drop h k4, k5⟩
  | pk i => exact k
theorem Frm.sub {G G' : GD} {fp : List Addr} (h : Frm [] G fp G') : ∀ a d, G a = some d → G' a = some d := fun a d q => by
  rw [h.1 a (fun z => nomatch z) (by rw [q]; exact fun z => nomatch z)]; exact q
end
open Out (Rt)
abbrev eP5 {α β γ δ ε : Type} (f : α → D) (g : β → D) (h : γ → D) (k : δ → D) (l : ε → D) : α × β × γ × δ × ε → D := fun p => .tup [f p.1, g p.2.1, h p.2.2.1, k p.2.2.2.1, l p.2.2.2.2]
inductive At where
  | s (z : S) | i (n : Int)
deriving DecidableEq
abbrev eAt : At → D := fun v => match v with
  | .s z => eZ z
  | .i n => .int n
def At.s? : At → Option S
  | .s z => some z
  | .i _ => none
def At.i? : At → Option Int
  | .s _ => none
  | .i n => some n
@[simp] theorem At.s?_s (z : S) : (At.s z).s? = some z := rfl
@[simp] theorem At.s?_i (n : Int) : (At.i n).s? = none := rfl
@[simp] theorem At.i?_s (z : S) : (At.s z).i? = none := rfl
@[simp] theorem At.i?_i (n : Int) : (At.i n).i? = some n := rfl
section
variable {X : Cy} {tg e a b o : Expr} {ifs : List Expr} {sts body : List Stmt} {h0 : ExceptHandler} {hds : List ExceptHandler} {r : Env2} {G : GD} {pos p apos : Pos} {D0 : EndsD}
def gFld (K : PySem.W.Frag) (ta : TE) (f : Str) : TG := fun y σ H Q => ta σ H fun x H2 => ∃ a C dx fs, x = .ref a ∧ H2 a = some (.ins C dx fs) ∧ Cls K C ∧ NoAttr K C f ∧ fs.length < 1000 ∧ Q σ (upd H2 a (.ins C dx (putF f y fs)))
theorem pg_fld {X : Cx} {o : Expr} {ta : TE} {f : Str} {apos : Pos} (ha : PE X o ta) : PG X (.Attribute o f apos) (gFld X.K ta f) := by
  refine ⟨fun pins s σ H v u Q I r h => ?_⟩
  rw [assign_Attribute]
  refine wpAny_bind (wpAny_holding (thn (ha.run pins s σ H _ I h) fun ov s1 ⟨x, H1, I1, rx, a, C, dx, fs, ex, ea, c, n, l, q⟩ => ?_))
  subst ex
  obtain rfl : ov = Value.ref a := rx
  refine wpAny_bind (wpAny_standAt (wpAny_bind (wpAny_holding (setattr_ok I1 ea c n l r fun s3 I3 => ?_))))
  exact wpAny_release ⟨σ, _, I3, q⟩
theorem wg_fldO {f : Str} {d : D} {is : List Nat} {Q : Env2 → GD → Prop} (h : WE X o r G fun x r3 G3 => ∃ p C ns ds, x = .sh (.adr p) ∧ G3 p = some (.obj C ns ds) ∧ Cls X.K C ∧ NoAttr X.K C f ∧ ns.length < 1000 ∧ Q r3 (updG G3 p (.obj C (putA f ns) (putAD f d ns ds)))) :
    WG X (.Attribute o f apos) d r G is Q := fun F0 T F H σ v lk S rp =>
  RunG.of (pg_fld peR) ((h F0 T F H σ lk S).mono fun u H2 ⟨x, r3, G3, F3, e3, S3, k3, p, C, ns, ds, hx, hG, hc, hn, hl, q⟩ => by
    subst hx
    obtain ⟨dx, vs, m2, m3, m4⟩ := objs_at S3 hG
    obtain ⟨us, n1, n2, n3⟩ := putF_zip (f := f) (Rep.mono e3 _ _ rp) m3 m4
    refine ⟨p, C, dx, _, k3, m2, hc, hn, by rw [List.length_zip]; omega, rfl, r3, _, F3, e3, ?_, q⟩
    rw [n1]
    exact S3.gput hG ⟨dx, us, upd_same, n2, n3⟩)
/-- self.f as a target, shared data -/
theorem wg_fldA {f : Str} {C : Addr} {ns : List Str} {fs : List Fld} {d : D} {is : List Nat} {Q : Env2 → GD → Prop} (c : Cls X.K C) (n : NoAttr X.K C f) (hn : ns.length < 1000) (h : WE X o r G fun x r3 G3 => ∃ p fp, x = .sh (.adr p) ∧ obA C p ns fs fp G3 ∧
      ∀ fp' G', obA C p (putA f ns) (putFl f (.sh d) ns fs) fp' G' → Frm fp G3 fp' G' → Q r3 G') : WG X (.Attribute o f apos) d r G is Q :=
  wg_fldO (h.mono fun x r3 G3 ⟨p, fp, hx, hP, k⟩ => by
    obtain ⟨ds, as, rfl, hnd, hln, hG, hF⟩ := hP
    obtain ⟨n1, n2⟩ := List.nodup_cons.mp hnd
    have hF' : FL (updG G3 p (.obj C (putA f ns) (putAD f d ns ds))) fs ds as := hF.loc fun a ha => updG_ne fun z => n1 (z ▸ ha)
    obtain ⟨bs, b1, b2, b3⟩ := hF'.put n2 hln f (.sh d) d [] (.sh .nil) (fun a h => by cases h)
    have hbs : ∀ a ∈ bs, a ∈ as := fun a h => (b3 a h).elim id fun z => by cases z
    refine ⟨p, C, ns, ds, hx, hG, c, n, hn, k (p :: bs) _ ⟨_, bs, rfl, List.nodup_cons.mpr ⟨fun z => n1 (hbs p z), b2⟩, ?_, updG_same, b1⟩ ⟨fun b hb _ => updG_ne fun z => hb (by simp [z]), fun b hb => ?_⟩⟩
    · rw [putA_len f d ns ds (by rw [hln, hF.len]), b1.len]
    · rcases List.mem_cons.mp hb with rfl | hb
      · exact .inl List.mem_cons_self
      · exact .inl (List.mem_cons_of_mem _ (hbs b hb)))
end
open Out (Rt)
section
variable {P : Program} {w : World} {K : PySem.W.Frag} {mg : Str → Option Value} {base : Heap}
/-- .. four slots, stored from names at the end: the last slot first -/
theorem init4r_ok {x qual : Str} {st : Stmt} {g : Addr} {fd : FuncData} {N ps : List Str} {k : Nat} {C q0 q1 q2 q3 : Addr} {f0 f1 f2 f3 : Str} {f : FSpI} (Fo : Fun K x qual st g fd) (S : FnScope N ps (defScope st)) (c : SlX.SCls K C) (t0 : SlX.Slot1 K C f0 q0 3) (t1 : SlX.Slot1 K C f1 q1 2) (t2 : SlX.Slot1 K C f2 q2 1) (t3 : SlX.Slot1 K C f3 q3 0)
    (len : ∀ ds G post px, f ds G post px → ds.length + 1 = ps.length)
    (pre : List Stmt) (s0 s1 s2 s3 : Stmt) (i0 i1 i2 i3 : Nat) (hb : defBody st = pre ++ [s0, s1, s2, s3])
    (hbody : ∀ (cdv : Value) (A : Around) (outer : List Env) (s : Shared) (H : Hp) (E : XK) (F T : Hp), Room k (A.deeper (envOfC qual (defScope st) s.heap.objs.size g cdv)) → ∀ (px : Exn → GD → Prop),
      PS (cyOf P w K mg base N qual (defScope st) g cdv A outer s H E F T px).toCx s0 (SlX.sSl K (tVar 0) (tVar i0) f0) ∧ PS (cyOf P w K mg base N qual (defScope st) g cdv A outer s H E F T px).toCx s1 (SlX.sSl K (tVar 0) (tVar i1) f1) ∧ PS (cyOf P w K mg base N qual (defScope st) g cdv A outer s H E F T px).toCx s2 (SlX.sSl K (tVar 0) (tVar i2) f2) ∧ PS (cyOf P w K mg base N qual (defScope st) g cdv A outer s H E F T px).toCx s3 (SlX.sSl K (tVar 0) (tVar i3) f3) ∧
      ∀ (a : Addr) (ds : List D) (G : GD) (post : List D → GD → Prop), f ds G post px → (cyOf P w K mg base N qual (defScope st) g cdv A outer s H E F T px).Tk → PassesOwn (model P w) (cyOf P w K mg base N qual (defScope st) g cdv A outer s H E F T px).A (cyOf P w K mg base N qual (defScope st) g cdv A outer s H E F T px).env (cyOf P w K mg base N qual (defScope st) g cdv A outer s H E F T px).xe →
      WB (cyOf P w K mg base N qual (defScope st) g cdv A outer s H E F T px) pre (startD N (.adr a :: ds)) G { nx := fun r G' => r[0]? = some (Sl.sh (.adr a)) ∧ ∃ d0 d1 d2 d3, r[i0]? = some (Sl.sh d0) ∧ r[i1]? = some (Sl.sh d1) ∧ r[i2]? = some (Sl.sh d2) ∧ r[i3]? = some (Sl.sh d3) ∧ post [d3, d2, d1, d0] G', rt := fun _ _ => False }) :
    FnOk P w K mg base (L2.CX P w) (k + 1) g fd ps (spI K C f) := by
  refine Fo.okX S (fun vs H Q E h => ?_) (fun cdv A outer s H vs Q E hr h => ?_)
  · obtain ⟨a, dx, us, F, G, ds, post, px, rfl, _, _, _, _, _, _, _, _, _, _, rp, hf, _⟩ := h
    rw [List.length_cons, rp.length]; exact len ds G post px hf
  · obtain ⟨a, dx, us, F, G, ds, post, px, rfl, hx, hd, hne, fx, fdx, gx, gdx, e1, e2, e3, rp, hf, hq, hxn⟩ := h
    refine ⟨RunB _ (defBody st), pbR, ?_⟩
    obtain ⟨p0, p1, p2, p3, hW⟩ := hbody cdv A outer s H E F (Tof G H) hr px
    have hl : (D.adr a :: ds).length ≤ N.length := by
      rw [List.length_cons, len ds G post px hf]
      have := congrArg List.length S.pre
      rw [List.length_take] at this
      omega
    rw [hb]
    have S0 := sta_start (N := N) (ds := .adr a :: ds) (vs := .ref a :: us) hl e1 e2 e3 ⟨_, _, rfl, rfl, rp⟩
    have tk : (cyOf P w K mg base N qual (defScope st) g cdv A outer s H E F (Tof G H) px).Tk := (takes_of (E := E) rfl rfl rfl rfl).imp fun cls d σ H' ⟨r, G', F', x, S', ex, q⟩ => hxn x cls d G' H' F' q S'.bas.tin ex
    have go := hW a ds G post hf tk (passes_of rfl) F (Tof G H) F H (L2.start N (.ref a :: us)) ⟨Ex.refl _, Ex.refl _, fun _ _ z => .inl z⟩ S0
    refine runB_then (X := cyOf P w K mg base N qual (defScope st) g cdv A outer s H E F (Tof G H) px) (go.mono (fun σ' H' ⟨r', G', F', S', h0, d0, d1, d2, d3, h1, h2, h3, h4, hy⟩ => ?_) (fun v H' ⟨x, G', F', B, rt, q⟩ => q.elim) (fun _ _ ⟨_, _, _, _, q⟩ => q) (fun _ _ ⟨_, _, _, _, q⟩ => q))
    obtain ⟨va, a1, a2⟩ := S'.sl 0 _ h0
    obtain ⟨v0, b1, b2⟩ := S'.sl i0 _ h1
    obtain ⟨v1, c1, c2⟩ := S'.sl i1 _ h2
    obtain ⟨v2, k1, k2⟩ := S'.sl i2 _ h3
    obtain ⟨v3, l1, l2⟩ := S'.sl i3 _ h4
    cases (show va = .ref a from a2)
    have tx : H' a = some (.ins C dx []) := S'.bas.tk a _ (by rw [Tof_none gx]; exact hx)
    have hs0 : SlX.Slt H' a C dx [] := .inl ⟨tx, rfl⟩
    have four : SlX.putS 0 v3 (SlX.putS 1 v2 (SlX.putS 2 v1 (SlX.putS 3 v0 []))) = [some v3, some v2, some v1, some v0] := rfl
    refine RunB.of (pss_cons p0 (pss_cons p1 (pss_cons p2 (pss_cons p3 pss_nil)))) ⟨v0, b1, .ref a, a1, a, C, dx, q0, [], 3, rfl, hs0, c, t0, v1, c1, .ref a, a1, a, C, dx, q1, _, 2, rfl, SlX.slH_slt hne, c, t1, v2, k1, .ref a, a1, a, C, dx, q2, _, 1, rfl, SlX.slH_slt hne, c, t2, v3, l1, .ref a, a1, a, C, dx, q3, _, 0, rfl, SlX.slH_slt hne, c, t3, ?_⟩
    rw [SlX.slH_twice hne, SlX.slH_twice hne, SlX.slH_twice hne, four]
    obtain ⟨F2, g1, g2, g3⟩ := init_frame (vs := [some v3, some v2, some v1, some v0]) S'.bas fx fdx gx gdx hx hd hne rfl
    exact hq _ G' _ F2 hy g2 ⟨a, dx, [v3, v2, v1, v0], rfl, g3, v3, [v2, v1, v0], rfl, Rep.mono g1 _ _ l2, v2, [v1, v0], rfl, Rep.mono g1 _ _ k2, v1, [v0], rfl, Rep.mono g1 _ _ c2, .one (Rep.mono g1 _ _ b2)⟩
end
structure Scn where
  cuts : List Int
  errors : Int
  laid : Int
  spot : Int
deriving DecidableEq
abbrev eScn (C : Addr) : Scn → D := fun r => .ins C [.tup (r.cuts.map D.int), .int r.errors, .int r.laid, .int r.spot]
structure Cl_Scene (K : PySem.W.Frag) (C : Addr) : Prop where
  cls : SlX.SCls K C
  isi : SlX.SIsi K C
  s0 : ∃ p, SlX.Slot1 K C "cuts" p 0
  s1 : ∃ p, SlX.Slot1 K C "errors" p 1
  s2 : ∃ p, SlX.Slot1 K C "laid" p 2
  s3 : ∃ p, SlX.Slot1 K C "spot" p 3
  same : PySem.W.kitOne K (.ref C) (.ref C) = some true
  nf : PySem.W.notFirst K C (.ref C) = true
section
variable {X : Cy}
theorem so_int (xs : List Int) : PySem.W.Sortable (xs.map fun a => toP (eI a)) := PySem.W.Sortable.others fun a => ⟨(fun z => nomatch z), fun _ z => nomatch z⟩
/-- sorted(t), t a tuple of whole numbers -/
theorem t_sortedTI (hu : X.A.units + 64 < cLine) (xs : List Int) {Q : Res → Prop} (q : Q (.fr (.lst ((dsort eI xs).map eI)))) : CallW1 X (.builtin "sorted") (.tup (xs.map eI)) Q := fun F0 T F G H r σ v S hv => by
  obtain ⟨p, vs, rfl, h1, h2⟩ := hv.tup S.bas.fh
  refine ⟨_, call_sortedTD (enc := fun a : Int => toP (eI a)) hu, p, vs, xs, _, rfl, h1, repl_paired h2, fun x a rp => orc_int.dpv S.bas.fh (.inl rp), fun b => rfl, PySem.W.AllAlike.of orc_int.al, so_int xs, fun a _ => Nat.le_trans (orc_int.dp a) (by decide), fun ys l hy hl => ?_⟩
  rw [leC_data] at hy
  exact new_lst S (paired_repl hy) hl q
end
open Out (Rt)
section
variable {X : Cy} {e0 : Expr} {sts : List Stmt} {r : Env2} {G : GD} {pos : Pos} {D0 : EndsD} {α β : Type}
theorem wb_letH {e : α} {f : α → Out β} {Q : β → Prop} {E : Xm → Prop} (h : ((Out.ok e).bind f).sat Q E) (R : α → Env2) (hr : r = R e) (k : ∀ x, (f x).sat Q E → WB X sts (R x) G D0) : Hold (WB X sts r G D0) := ⟨wb_let h R hr k⟩
theorem ws_setH (i : Nat) {x : Str} {pos' : Pos} (hN : X.N.Nodup) (hi : X.N[i]? = some x) (hx : Loc X.env.scope x) (h : WE X e0 r G fun y r1 G1 => i < r1.length ∧ ∃ r2, putS r1 i y = some r2 ∧ D0.nx r2 G1)
    (hs : swapsWith e0 (some (.Name x pos')) pos.line X.env = pure false := by rfl) (hf : X.fn x = true ∨ X.env.scope.names.lookup x = some .local := by first | exact .inl rfl | exact .inr rfl | assumption) : Hold (WS X (.Assign [.Name x pos'] e0 pos) r G D0) := ⟨ws_set i hN hi hx h hs hf⟩
end
theorem strOk_iff {x : Str} : PyData.strOk x = true ↔ ∀ c, c ∈ x.cps.toList → c < 0x110000 := by
  unfold PyData.strOk
  rw [← Array.all_toList, List.all_eq_true]
  exact ⟨fun h c hc => of_decide_eq_true (h c hc), fun h c hc => decide_eq_true (h c hc)⟩
theorem strOk_cat {x y : Str} (h1 : PyData.strOk x = true) (h2 : PyData.strOk y = true) : PyData.strOk (x ++ y) = true := by
  rw [strOk_iff] at h1 h2 ⊢
  intro c hc
  have hc : c ∈ (x.cps ++ y.cps).toList := hc
  rw [Array.toList_append] at hc
  rcases List.mem_append.mp hc with z | z
  · exact h1 c z
  · exact h2 c z
theorem strOk_nil : PyData.strOk Str.empty = true := by
  rw [strOk_iff]
  intro c hc
  cases hc
def zcat (x y : S) : S := ⟨x.1 ++ y.1, strOk_cat x.2 y.2⟩
theorem foldl_rep {α : Type} (a : Array α) : ∀ (n : Nat) (b : Array α) (c : α), c ∈ ((List.replicate n a).foldl (· ++ ·) b).toList → c ∈ b.toList ∨ c ∈ a.toList
  | 0, b, c, h => .inl h
  | n + 1, b, c, h => by
    rw [List.replicate_succ, List.foldl_cons] at h
    rcases foldl_rep a n (b ++ a) c h with z | z
    · rw [Array.toList_append] at z
      exact List.mem_append.mp z
    · exact .inr z
theorem strOk_mul {x : Str} (h : PyData.strOk x = true) (n : Int) : PyData.strOk (Txt.mul x n) = true := by
  unfold Txt.mul
  split
  · exact strOk_nil
  · split
    · exact h
    · rw [strOk_iff] at h ⊢
      intro c hc
      rcases foldl_rep x.cps _ _ c hc with z | z
      · cases z
      · exact h c z
def zmul (x : S) (n : Int) : S := ⟨Txt.mul x.1 n, strOk_mul x.2 n⟩
theorem foldl_glue {g : Array Nat} (hg : ∀ c, c ∈ g.toList → c < 0x110000) : ∀ (ps : List Str) (b : Array Nat), (∀ p, p ∈ ps → ∀ c, c ∈ p.cps.toList → c < 0x110000) → (∀ c, c ∈ b.toList → c < 0x110000) → ∀ c, c ∈ (ps.foldl (fun acc p => acc ++ g ++ p.cps) b).toList → c < 0x110000
  | [], b, _, hb, c, h => hb c h
  | p :: ps, b, hp, hb, c, h => by
    rw [List.foldl_cons] at h
    refine foldl_glue hg ps (b ++ g ++ p.cps) (fun q hq => hp q (List.mem_cons_of_mem _ hq)) (fun c hc => ?_) c h
    rw [Array.toList_append, Array.toList_append] at hc
    rcases List.mem_append.mp hc with z | z
    · rcases List.mem_append.mp z with y | y
      · exact hb c y
      · exact hg c y
    · exact hp p List.mem_cons_self c z
theorem strOk_join {g : Str} (hg : PyData.strOk g = true) {ps : List S} : PyData.strOk (Txt.join g (ps.map (·.1))) = true := by
  rw [strOk_iff] at hg ⊢
  unfold Txt.join Builtin.Str.glued
  have hp : ∀ p, p ∈ ps.map (·.1) → ∀ c, c ∈ p.cps.toList → c < 0x110000 := fun p h => by
    obtain ⟨q, _, rfl⟩ := List.mem_map.mp h
    exact strOk_iff.mp q.2
  refine foldl_glue hg _ _ (fun p h => hp p (List.mem_of_mem_drop h)) (fun c hc => ?_)
  cases hq : ps.map (·.1) with
  | nil => rw [hq] at hc; cases hc
  | cons q qs => rw [hq] at hc; exact hp q (by rw [hq]; exact List.mem_cons_self) c hc
def zjoin (g : S) (ps : List S) : S := ⟨Txt.join g.1 (ps.map (·.1)), strOk_join g.2⟩
/-- str of a whole number -/
def ziOk (i : Int) : Prop := i.natAbs < 2 ^ 64 ∧ PyData.strOk (toString i) = true
instance instZiOk (i : Int) : Decidable (ziOk i) := by unfold ziOk; infer_instance
def zint (i : Int) : S := if h : PyData.strOk (toString i) = true then ⟨toString i, h⟩ else ⟨Str.empty, strOk_nil⟩
theorem zint_val {i : Int} (h : ziOk i) : (zint i).1 = toString i := by unfold zint; rw [dif_pos h.2]
section
variable {X : Cy} {o e : Expr} {r : Env2} {G : GD} {pos apos cpos p0 : Pos} {D0 : EndsD}
theorem t_catS (x y : S) (hl : x.1.length + y.1.length ≤ LIM) {Q : Res → Prop} (q : Q (.sh (eZ (zcat x y)))) : OpW X (binaryOp .Add) (eZ x) (eZ y) Q :=
  opw_flat (d := eZ (zcat x y)) (v := .str (x.1 ++ y.1)) (fun _ _ => rfl) (fun F H va vb _ h1 h2 => ⟨_, op_add_str, fun P p => ⟨x.1, y.1, h1.str, h2.str, lim_ok hl, p⟩⟩) q
theorem op_mul_str : OpR X.toCx (binaryOp .Mult) (fun x y H Q => ∃ (z : Str) (n : Int), x = .str z ∧ y = .int n ∧ MulOk z n ∧ Q (.str (Txt.mul z n)) H) := by
  intro pins s σ H x y v u Q I rx ry h
  obtain ⟨z, n, rfl, rfl, hz, q⟩ := h
  obtain ⟨t, rfl⟩ := rx
  obtain ⟨t', rfl⟩ := ry
  exact SB.mul hz fun t' k => ⟨.str (Txt.mul z n), H, I.tok _, ⟨_, rfl⟩, q⟩
theorem t_mulS (x : S) (n : Int) (hn : x.1.length ≤ 64 ∧ -1000 ≤ n ∧ n ≤ 1000) {Q : Res → Prop} (q : Q (.sh (eZ (zmul x n)))) : OpW X (binaryOp .Mult) (eZ x) (.int n) Q :=
  opw_flat (d := eZ (zmul x n)) (v := .str (Txt.mul x.1 n)) (fun _ _ => rfl) (fun F H va vb _ h1 h2 => ⟨_, op_mul_str, fun P p => ⟨x.1, n, h1.str, h2.int, by
    obtain ⟨a1, a2, a3⟩ := hn
    refine ⟨by rw [decide_eq_false (by omega), decide_eq_false (by omega)]; rfl, fun h _ => ?_, fun h _ => ?_⟩
    · have : 64 ≤ ((2 ^ 63 - 1) / n : Int) := by
        refine (Int.le_ediv_iff_mul_le (by omega)).mpr ?_
        omega
      omega
    · have h4 : x.1.length * n.toNat ≤ 64 * 1000 := Nat.mul_le_mul a1 (by omega)
      unfold Builtin.Str.tooLong
      rw [decide_eq_false_iff_not]
      show ¬ _
      simp only [sizeLine_eq]
      omega, p⟩⟩) q
theorem c_strI {i : Int} (h : ziOk i) {Q : Res → Prop} (q : Q (.sh (eZ (zint i)))) : CallW1 X (.type "str") (.int i) Q :=
  c1_flat (d' := eZ (zint i)) (v' := .str (toString i)) (fun _ _ => by show _ = _; rw [zint_val h]) (fun F H v ex h1 => ⟨_, call_str_int, fun P hp => ⟨i, by rw [h1.int], by
    rcases Nat.eq_zero_or_pos i.natAbs with z | z
    · rw [z]; decide
    · exact Nat.lt_of_lt_of_le ((Nat.log2_lt (by omega)).mpr h.1) (by decide), hp⟩⟩) q
/-- x += e, on texts -/
theorem ws_augT (i : Nat) {x : Str} {n : S} {pos' : Pos} (hN : X.N.Nodup) (hi : X.N[i]? = some x) (hx : Loc X.env.scope x) (hr : r[i]? = some (.sh (eZ n))) (h : WE X e r G fun y r1 G1 => i < r1.length ∧ ∃ m : S, vw r1 y = some (eZ m) ∧ n.1.length + m.1.length ≤ LIM ∧ D0.nx (r1.set i (.sh (eZ (zcat n m)))) G1)
    (hf : X.fn x = true ∨ X.env.scope.names.lookup x = some .local := by first | exact .inl rfl | exact .inr rfl | assumption) : WS X (.AugAssign (.Name x pos') .Add e pos) r G D0 := fun F0 T F H σ lk S =>
  RunS.of (ps_aug hN hi hx peR (fun pins s σ H x y v u Q I r1 r2 h => iop_add_str pins s σ H x y v u Q I r1 r2 h) hf) (by
    obtain ⟨v, h1, h2⟩ := S.slot hr
    cases (show v = .str n.1 from h2)
    refine ⟨.str n.1, h1, (h F0 T F H σ lk S).mono fun v H1 ⟨y, r1, G1, F1, e1, S1, k1, hi', m, q1, ql, q2⟩ => ?_⟩
    exact ⟨n.1, m.1, rfl, (S1.view k1 q1).str, lim_ok ql, r1.set i (.sh (eZ (zcat n m))), G1, F1, S1.set hi' ⟨_, rfl, rfl⟩ (fun d' z => nomatch z), q2⟩)
theorem ti_zipT {α β : Type} {f : α → D} {g : β → D} {a b : Expr} {elts : List Expr} {kk : Nat} {tpos : Pos} {Q : List D → Env2 → GD → Prop} (hg : Gl X "zip") (hm : X.mg "zip" = none)
    (h : WA X [a, b] r G fun ds r1 G1 => ∃ xs ys, ds = [.tup (List.map f xs), .tup (List.map g ys)] ∧ xs.length ≤ LIM ∧ ((xs.zip ys).length ≤ LIM → Q ((xs.zip ys).map (eP f g)) r1 G1))
    (hs : starEach [a, b] X.env = (false, eval a X.env) :: starEach [b] X.env := by rfl) (hpl : (backTo pos (starEach [b] X.env)).any (·.1) = false := by rfl) : WI X (.Tuple elts kk tpos) (.Call (.Name "zip" p0) [a, b] [] pos) r G Q := fun F0 T F H σ lk S =>
  RunI.of (RZ.pi_zipA hg hm paR hs hpl) ((h F0 T F H σ lk S).mono fun vs H1 ⟨ds, r1, G1, F1, e1, S1, k1, xs, ys, hds, hl, q⟩ => by
    subst hds
    obtain ⟨v1, vs1, rfl, ra, v2, vs2, rfl, rb, hz⟩ := k1
    cases (show vs2 = [] from hz)
    obtain ⟨p1, us, rfl, z1, z2⟩ := ra
    obtain ⟨p2, ws, rfl, z3, z4⟩ := rb
    have hlen : (xs.zip ys).length ≤ LIM := by rw [List.length_zip]; exact Nat.le_trans (Nat.min_le_left _ _) hl
    refine ⟨p1, p2, us, ws, rfl, .inr ⟨S1.bas.fh.sqT z1, S1.bas.fh.sqT z3, (xs.zip ys).map (eP f g), r1, G1, F1, e1, S1, fun F H ea eh => ⟨⟨us, ws, eh.sqT (ea.sqT z1), eh.sqT (ea.sqT z3), ?_⟩, fun i d hi => ?_⟩, q hlen⟩⟩
    · have h1 := z2.length
      have h2 := z4.length
      rw [List.length_map] at h1 h2
      rw [List.length_map, List.length_zip]
      omega
    · rw [List.getElem?_map] at hi
      obtain ⟨⟨x, y⟩, hxy, rfl⟩ := Option.map_eq_some_iff.mp hi
      obtain ⟨hx, hy⟩ := List.getElem?_zip_eq_some.mp hxy
      obtain ⟨u, h1, h2⟩ := z2.get (show (xs.map f)[i]? = some (f x) from by rw [List.getElem?_map, hx]; rfl)
      obtain ⟨w, h3, h4⟩ := z4.get (show (ys.map g)[i]? = some (g y) from by rw [List.getElem?_map, hy]; rfl)
      refine ⟨⟨us, ws, u, w, eh.sqT (ea.sqT z1), eh.sqT (ea.sqT z3), h1, h3⟩, fun v H' ⟨p, y1, y2, hx, hp, hH, hy1, hy2⟩ => .inr ⟨p, _, hp, hH, hx, ?_⟩⟩
      have j1 := hy1 us (eh.sqT (ea.sqT z1))
      have j2 := hy2 ws (eh.sqT (ea.sqT z3))
      rw [h1] at j1; cases j1
      rw [h3] at j2; cases j2
      exact rep_pair (none_F eh hp) (Rep.mono ea _ _ h2) (Rep.mono ea _ _ h4))
/-- g.join(xs), a list of texts -/
theorem we_joinT {Q : Res → Env2 → GD → Prop} (h : WE X o r G fun x r1 G1 => ∃ g : S, x = .sh (eZ g) ∧ WE X e r1 G1 fun y r2 G2 => ∃ ps : List S, VwR r2 G2 y (.lst (ps.map eZ)) ∧ (ps.map (·.1.length)).sum + ps.length * g.1.length ≤ LIM ∧ Q (.sh (eZ (zjoin g ps))) r2 G2)
    (hs : starEach [e] X.env = [(false, eval e X.env)] := by rfl) (hbase : attributeBase o "join" X.env (eval o X.env) = eval o X.env := by rfl) (hline : (apos.endLine == cpos.line) = true := by rfl) : WE X (.Call (.Attribute o "join" apos) [e] [] cpos) r G Q := fun F0 T F H σ lk S =>
  Run.of (pe_join peR peR hs hbase hline) ((h F0 T F H σ lk S).mono fun v H1 ⟨x, r1, G1, F1, e1, S1, k1, g, hx, h1⟩ => by
    subst hx
    cases (show v = .str g.1 from k1)
    refine ⟨⟨g.1, rfl⟩, (h1 F0 T F1 H1 σ lk S1).mono fun w H2 ⟨y, r2, G2, F2, e2, S2, k2, ps, q1, ql, q2⟩ => ?_⟩
    obtain ⟨p, vs, rfl, z1, z2⟩ := (S2.viewR k2 q1).lst S2.bas.fh
    have z3 : RepL X.K F2 ((ps.map (fun z : RB.S => z.1)).map D.str) vs := by rw [List.map_map]; exact z2
    cases z3.strs
    exact ⟨g.1, p, ps.map (fun z : RB.S => z.1), rfl, rfl, .inl (.inl z1), by rw [List.map_map, List.length_map]; exact ql, .sh (eZ (zjoin g ps)), r2, G2, F2, e1.trans e2, S2, rfl, q2⟩)
end
open L2 (ixN)
namespace Out
variable {α β σ ρ : Type}
/-- it ends with a value of which Q holds -/
def yes (m : Out α) (Q : α → Prop) : Prop := ∃ a, m = .ok a ∧ Q a
theorem yes_ok {a : α} {Q : α → Prop} (h : Q a) : (Out.ok a).yes Q := ⟨a, rfl, h⟩
theorem yes.mono {m : Out α} {Q Q' : α → Prop} (h : m.yes Q) (k : ∀ a, Q a → Q' a) : m.yes Q' := by
  obtain ⟨a, h1, h2⟩ := h; exact ⟨a, h1, k a h2⟩
theorem yes_bind {m : Out α} {f : α → Out β} {Q : β → Prop} {R : α → Prop} (h : m.yes R) (k : ∀ a, R a → (f a).yes Q) : (m.bind f).yes Q := by
  obtain ⟨a, rfl, h2⟩ := h; exact k a h2
theorem yes.eq {m : Out α} {a : α} (h : m.yes (· = a)) : m = .ok a := by obtain ⟨b, h1, h2⟩ := h; rw [h1, h2]
theorem bind_guard {p : Prop} [Decidable p] (h : p) {f : Unit → Out β} : (guard p).bind f = f () := by rw [guard_pos h]; rfl
theorem bind_get {o : Option α} {a : α} (h : o = some a) {f : α → Out β} : (get o).bind f = f a := by rw [h]; rfl
theorem yes_guard {p : Prop} [Decidable p] (h : p) {f : Unit → Out β} {Q : β → Prop} (k : (f ()).yes Q) : ((guard p).bind f).yes Q := by rw [bind_guard h]; exact k
theorem yes_get {o : Option α} {a : α} (h : o = some a) {f : α → Out β} {Q : β → Prop} (k : (f a).yes Q) : ((get o).bind f).yes Q := by rw [bind_get h]; exact k
theorem yes_let {a : α} {f : α → Out β} {Q : β → Prop} (k : (f a).yes Q) : ((Out.ok a).bind f).yes Q := k
theorem yes_ifF {c : Bool} {a b : Out α} {Q : α → Prop} (h : c = false) (k : b.yes Q) : (if c = true then a else b).yes Q := by rw [if_neg (by rw [h]; exact Bool.false_ne_true)]; exact k
theorem yes_if {c : Bool} {a b : Out α} {Q : α → Prop} (h : c = true → a.yes Q) (k : c = false → b.yes Q) : (if c = true then a else b).yes Q := by
  cases c with
  | true => exact h rfl
  | false => exact k rfl
theorem bind_assoc {γ : Type} {m : Out α} {f : α → Out β} {g : β → Out γ} : (m.bind f).bind g = m.bind fun a => (f a).bind g := by cases m <;> rfl
/-- loops: an invariant over what was done so far -/
theorem fold_yes {f : σ → α → Out σ} (I : List α → σ → Prop) : ∀ (xs : List α) (s0 : σ), I [] s0 → (∀ pre x post s, xs = pre ++ x :: post → I pre s → (f s x).yes (I (pre ++ [x]))) → (fold f xs s0).yes (I xs) := by
  have key : ∀ (xs : List α) (pre : List α) (s : σ), I pre s → (∀ p x post s, pre ++ xs = p ++ x :: post → pre.length ≤ p.length → I p s → (f s x).yes (I (p ++ [x]))) → (fold f xs s).yes (I (pre ++ xs)) := by
    intro xs
    induction xs with
    | nil => intro pre s h0 _; rw [List.append_nil]; exact yes_ok h0
    | cons x xs ih =>
      intro pre s h0 hs
      refine yes_bind (hs pre x xs s rfl (Nat.le_refl _) h0) fun s' h' => ?_
      have := ih (pre ++ [x]) s' h' fun p y post s e hl hI => hs p y post s (by rw [← e, List.append_assoc]; rfl) (by rw [List.length_append] at hl; exact Nat.le_trans (Nat.le_add_right _ _) hl) hI
      rw [List.append_assoc] at this
      exact this
  intro xs s0 h0 hs
  exact key xs [] s0 h0 fun p x post s e _ hI => hs p x post s e hI
theorem fold_nil {f : σ → α → Out σ} {s : σ} : fold f [] s = .ok s := rfl
theorem fold_cons {f : σ → α → Out σ} {s : σ} {x : α} {xs : List α} : fold f (x :: xs) s = (f s x).bind (fold f xs) := rfl
/-- loops with a return: an invariant, and what a return says -/
theorem loop_yes {f : σ → α → Out (Rt σ ρ)} (I : List α → σ → Prop) (R : ρ → Prop) : ∀ (xs : List α) (s0 : σ), I [] s0 → (∀ pre x post s, xs = pre ++ x :: post → I pre s → (f s x).yes fun t => match t with | .nx s' => I (pre ++ [x]) s' | .rt v => R v) → (loop f xs s0).yes fun t => match t with | .nx s' => I xs s' | .rt v => R v := by
  have key : ∀ (xs : List α) (pre : List α) (s : σ), I pre s → (∀ p x post s, pre ++ xs = p ++ x :: post → pre.length ≤ p.length → I p s → (f s x).yes fun t => match t with | .nx s' => I (p ++ [x]) s' | .rt v => R v) → (loop f xs s).yes fun t => match t with | .nx s' => I (pre ++ xs) s' | .rt v => R v := by
    intro xs
    induction xs with
    | nil => intro pre s h0 _; rw [List.append_nil]; exact yes_ok h0
    | cons x xs ih =>
      intro pre s h0 hs
      refine yes_bind (hs pre x xs s rfl (Nat.le_refl _) h0) fun t h' => ?_
      cases t with
      | nx s' =>
        have := ih (pre ++ [x]) s' h' fun p y post s e hl hI => hs p y post s (by rw [← e, List.append_assoc]; rfl) (by rw [List.length_append] at hl; exact Nat.le_trans (Nat.le_add_right _ _) hl) hI
        rw [List.append_assoc] at this
        exact this
      | rt v => exact yes_ok h'
  intro xs s0 h0 hs
  exact key xs [] s0 h0 fun p x post s e _ hI => hs p x post s e hI
/-- comprehensions -/
theorem compS_unit {f : Unit → α → Out (Option β × Unit)} {o : α → Option β} : ∀ (xs : List α) (acc : List β), (∀ x, x ∈ xs → f () x = .ok (o x, ())) → compS f xs acc () = .ok (acc ++ xs.filterMap o, ())
  | [], acc, _ => by unfold compS; simp
  | x :: xs, acc, h => by
    unfold compS
    rw [h x List.mem_cons_self, bind_ok]
    rw [compS_unit xs _ fun y hy => h y (List.mem_cons_of_mem _ hy)]
    cases hx : o x with
    | none => simp [hx]
    | some y => simp [hx]
theorem compS_yes {f : σ → α → Out (Option β × σ)} (I : List α → List β → σ → Prop) : ∀ (xs : List α) (s0 : σ), I [] [] s0 → (∀ pre x post acc s, xs = pre ++ x :: post → I pre acc s → (f s x).yes fun p => I (pre ++ [x]) (match p.1 with | some y => acc ++ [y] | none => acc) p.2) → (compS f xs [] s0).yes fun r => I xs r.1 r.2 := by
  have key : ∀ (xs : List α) (pre : List α) (acc : List β) (s : σ), I pre acc s → (∀ p x post acc s, pre ++ xs = p ++ x :: post → I p acc s → (f s x).yes fun q => I (p ++ [x]) (match q.1 with | some y => acc ++ [y] | none => acc) q.2) → (compS f xs acc s).yes fun r => I (pre ++ xs) r.1 r.2 := by
    intro xs
    induction xs with
    | nil => intro pre acc s h0 _; rw [List.append_nil]; exact yes_ok h0
    | cons x xs ih =>
      intro pre acc s h0 hs
      unfold compS
      refine yes_bind (hs pre x xs acc s rfl h0) fun q h' => ?_
      have := ih (pre ++ [x]) _ q.2 h' fun p y post acc s e hI => hs p y post acc s (by rw [← e, List.append_assoc]; rfl) hI
      rw [List.append_assoc] at this
      exact this
  intro xs s0 h0 hs
  exact key xs [] [] s0 h0 hs
end Out
open Out (Rt)
section
variable {α β : Type}
theorem perm_of_mem [DecidableEq α] {xs ys : List α} (hx : xs.Nodup) (hy : ys.Nodup) (h : ∀ a, a ∈ xs ↔ a ∈ ys) : xs.Perm ys := by
  rw [List.perm_iff_count]
  intro a
  by_cases ha : a ∈ xs
  · have h1 := List.nodup_iff_count.mp hx a
    have h2 := List.nodup_iff_count.mp hy a
    have h3 := List.count_pos_iff.mpr ha
    have h4 := List.count_pos_iff.mpr ((h a).mp ha)
    omega
  · rw [List.count_eq_zero_of_not_mem ha, List.count_eq_zero_of_not_mem fun z => ha ((h a).mpr z)]
theorem nodup_of_lt {xs : List Int} (h : xs.Pairwise (· < ·)) : xs.Nodup := h.imp fun h => by omega
theorem le_of_lt {xs : List Int} (h : xs.Pairwise (· < ·)) : xs.Pairwise (· ≤ ·) := h.imp fun h => by omega
theorem sorted_ext {xs ys : List Int} (hx : xs.Pairwise (· < ·)) (hy : ys.Pairwise (· < ·)) (h : ∀ a, a ∈ xs ↔ a ∈ ys) : xs = ys :=
  sorted_unique (perm_of_mem (nodup_of_lt hx) (nodup_of_lt hy) h) (le_of_lt hx) (le_of_lt hy)
theorem mem_isort {xs : List Int} {a : Int} : a ∈ isort xs ↔ a ∈ xs := (isort_perm xs).mem_iff
theorem isort_lt {xs : List Int} (h : xs.Nodup) : (isort xs).Pairwise (· < ·) := by
  have h1 := isort_sorted xs
  have h2 : (isort xs).Nodup := (isort_perm xs).nodup_iff.mpr h
  have := h1.and h2
  exact this.imp fun ⟨a, b⟩ => by omega
theorem mem_rgI {a b x : Int} : x ∈ rgI a b ↔ a ≤ x ∧ x < b := by
  unfold rgI
  rw [List.mem_map]
  constructor
  · rintro ⟨i, hi, rfl⟩; rw [List.mem_range] at hi; omega
  · rintro ⟨h1, h2⟩; exact ⟨(x - a).toNat, by rw [List.mem_range]; omega, by omega⟩
theorem rgI_lt (a b : Int) : (rgI a b).Pairwise (· < ·) := by
  unfold rgI
  rw [List.pairwise_map]
  exact List.pairwise_lt_range.imp fun h => by omega
theorem rgI_nil {a b : Int} (h : b ≤ a) : rgI a b = [] := by
  unfold rgI; rw [show (b - a).toNat = 0 by omega]; rfl
theorem rgI_snoc {a b : Int} (h : a ≤ b) : rgI a (b + 1) = rgI a b ++ [b] := by
  unfold rgI; rw [show (b + 1 - a).toNat = (b - a).toNat + 1 by omega, List.range_succ, List.map_append]
  congr 1; simp; omega
theorem rgI_cons {a b : Int} (h : a < b) : rgI a b = a :: rgI (a + 1) b := by
  refine sorted_ext (rgI_lt _ _) ?_ fun x => ?_
  · rw [List.pairwise_cons]; exact ⟨fun x hx => by rw [mem_rgI] at hx; omega, rgI_lt _ _⟩
  · rw [List.mem_cons, mem_rgI, mem_rgI]; omega
theorem pix_nat {xs : List α} {i : Nat} {x : α} (h : xs[i]? = some x) : pix xs (i : Int) = some x := by
  have hi := (List.getElem?_eq_some_iff.mp h).1
  unfold pix ixN
  rw [if_pos (by omega), if_pos (by omega)]
  simpa using h
theorem pix_pos {xs : List α} {i : Int} (h0 : 0 ≤ i) (h1 : i < xs.length) : pix xs i = xs[i.toNat]? := by
  unfold pix ixN
  rw [if_pos h0, if_pos h1]; rfl
theorem pix_some {xs : List α} {i : Int} (h0 : 0 ≤ i) (h1 : i < xs.length) : ∃ x, pix xs i = some x ∧ x ∈ xs := by
  rw [pix_pos h0 h1]
  have : i.toNat < xs.length := by omega
  exact ⟨xs[i.toNat], List.getElem?_eq_getElem this, List.getElem_mem _⟩
theorem pix_last {xs : List α} {x : α} (h : xs.getLast? = some x) : pix xs (-1) = some x := by
  have hne : xs ≠ [] := by intro e; rw [e] at h; cases h
  have hl : 0 < xs.length := List.length_pos_iff.mpr hne
  unfold pix ixN
  rw [if_neg (by omega), if_pos (by omega)]
  rw [List.getLast?_eq_getElem?] at h
  rw [show ((-1 : Int) + (xs.length : Int)).toNat = xs.length - 1 by omega]
  exact h
theorem penumF_get : ∀ (xs : List α) (k i : Nat), (penumF k xs)[i]? = (xs[i]?).map fun x => (((k + i : Nat) : Int), x)
  | [], k, i => by unfold penumF; simp
  | x :: xs, k, 0 => by unfold penumF; simp
  | x :: xs, k, i + 1 => by
    unfold penumF
    rw [List.getElem?_cons_succ, penumF_get xs (k + 1) i, List.getElem?_cons_succ]
    rw [show k + 1 + i = k + (i + 1) by omega]
theorem penum_get (xs : List α) (i : Nat) : (penum xs)[i]? = (xs[i]?).map fun x => ((i : Int), x) := by
  unfold penum; rw [penumF_get, Nat.zero_add]
/-- a walk over an enumerated list: what stands at a place -/
theorem penum_split {xs : List α} {pre post : List (Int × α)} {p : Int × α} (h : penum xs = pre ++ p :: post) : ∃ i : Nat, i = pre.length ∧ p.1 = (i : Int) ∧ xs[i]? = some p.2 ∧ pre = penum (xs.take i) := by
  have hg : (penum xs)[pre.length]? = some p := by rw [h]; simp
  rw [penum_get] at hg
  cases hx : xs[pre.length]? with
  | none => rw [hx] at hg; cases hg
  | some x =>
    rw [hx] at hg
    have hp : ((pre.length : Int), x) = p := by simpa using hg
    subst hp
    refine ⟨pre.length, rfl, rfl, hx, ?_⟩
    have hlt := (List.getElem?_eq_some_iff.mp hx).1
    apply List.ext_getElem?
    intro i
    rw [penum_get]
    by_cases hi : i < pre.length
    · have e1 : (penum xs)[i]? = pre[i]? := by rw [h, List.getElem?_append_left hi]
      rw [← e1, penum_get, List.getElem?_take_of_lt hi]
    · rw [List.getElem?_eq_none (by omega), List.getElem?_eq_none (by rw [List.length_take]; omega)]; rfl
end
section
variable {κ ν : Type} [DecidableEq κ]
abbrev keys (kvs : List (κ × ν)) : List κ := kvs.map (·.1)
theorem dhas_iff {kvs : List (κ × ν)} {k : κ} : dhas kvs k = true ↔ k ∈ keys kvs := by
  unfold dhas keys
  rw [List.any_eq_true, List.mem_map]
  constructor
  · rintro ⟨p, h1, h2⟩; exact ⟨p, h1, by simpa using h2⟩
  · rintro ⟨p, h1, h2⟩; exact ⟨p, h1, by simpa using h2⟩
theorem dget_none {kvs : List (κ × ν)} {k : κ} : dget kvs k = none ↔ k ∉ keys kvs := by
  unfold dget keys
  rw [Option.map_eq_none_iff, List.find?_eq_none, List.mem_map]
  constructor
  · rintro h ⟨p, h1, h2⟩; exact h p h1 (by simpa using h2)
  · intro h p h1 h2; exact h ⟨p, h1, by simpa using h2⟩
theorem dget_mem {kvs : List (κ × ν)} {k : κ} {v : ν} (h : dget kvs k = some v) : (k, v) ∈ kvs := by
  unfold dget at h
  rw [Option.map_eq_some_iff] at h
  obtain ⟨p, h1, h2⟩ := h
  have := List.find?_some h1
  have hk : p.1 = k := by simpa using this
  rw [← hk, ← h2]
  exact List.mem_of_find?_eq_some h1
theorem dget_some {kvs : List (κ × ν)} {k : κ} (h : k ∈ keys kvs) : ∃ v, dget kvs k = some v := by
  cases e : dget kvs k with
  | none => exact absurd h (dget_none.mp e)
  | some v => exact ⟨v, rfl⟩
theorem dget_of_mem {kvs : List (κ × ν)} {k : κ} {v : ν} (hn : (keys kvs).Nodup) (h : (k, v) ∈ kvs) : dget kvs k = some v := by
  induction kvs with
  | nil => cases h
  | cons p r ih =>
    unfold dget
    rw [List.find?_cons]
    by_cases e : p.1 = k
    · rw [show decide (p.1 = k) = true by simp [e]]
      rcases List.mem_cons.mp h with h | h
      · rw [← h]; rfl
      · exfalso
        have := (List.nodup_cons.mp hn).1
        exact this (List.mem_map.mpr ⟨(k, v), h, e.symm⟩)
    · rw [show decide (p.1 = k) = false by simp [e]]
      rcases List.mem_cons.mp h with h | h
      · rw [← h] at e; exact absurd rfl e
      · exact ih (List.nodup_cons.mp hn).2 h
theorem dput_eq (kvs : List (κ × ν)) (k : κ) (v : ν) : dput kvs k v = if dhas kvs k = true then kvs.map (fun p => if p.1 = k then (p.1, v) else p) else kvs ++ [(k, v)] := rfl
theorem keys_dput (kvs : List (κ × ν)) (k : κ) (v : ν) : keys (dput kvs k v) = if k ∈ keys kvs then keys kvs else keys kvs ++ [k] := by
  rw [dput_eq]; unfold keys
  by_cases h : k ∈ keys kvs
  · rw [if_pos (show dhas kvs k = true from dhas_iff.mpr h), if_pos h, List.map_map]
    apply List.map_congr_left
    intro p _
    by_cases e : p.1 = k
    · simp [e]
    · simp [e]
  · rw [if_neg (show ¬ dhas kvs k = true from fun z => h (dhas_iff.mp z)), if_neg h, List.map_append]; rfl
theorem mem_keys_dput {kvs : List (κ × ν)} {k x : κ} {v : ν} : x ∈ keys (dput kvs k v) ↔ x = k ∨ x ∈ keys kvs := by
  rw [keys_dput]
  split
  · constructor
    · exact .inr
    · rintro (rfl | h)
      · assumption
      · exact h
  · rw [List.mem_append, List.mem_singleton, or_comm]
theorem dput_nodup {kvs : List (κ × ν)} {k : κ} {v : ν} (h : (keys kvs).Nodup) : (keys (dput kvs k v)).Nodup := by
  rw [keys_dput]
  split
  · exact h
  · rename_i hk
    rw [List.nodup_append]
    exact ⟨h, by simp, fun a ha b hb => by rw [List.mem_singleton] at hb; subst hb; exact fun e => hk (e ▸ ha)⟩
theorem dget_dput (kvs : List (κ × ν)) (k x : κ) (v : ν) : dget (dput kvs k v) x = if x = k then some v else dget kvs x := by
  rw [dput_eq]
  by_cases h : dhas kvs k = true
  · rw [if_pos h]
    have hk := dhas_iff.mp h
    clear h
    induction kvs with
    | nil => cases hk
    | cons p r ih =>
      unfold dget
      rw [List.map_cons, List.find?_cons, List.find?_cons]
      by_cases e : p.1 = k
      · rw [if_pos e]
        by_cases hx : x = k
        · subst hx; simp [e]
        · rw [show decide ((p.1, v).1 = x) = false by simp; intro z; exact hx (z.symm.trans e)]
          rw [if_neg hx]
          by_cases hr : k ∈ keys r
          · have := ih hr; rw [if_neg hx] at this; exact this
          · have : r.map (fun p => if p.1 = k then (p.1, v) else p) = r := by
              rw [show r = r.map id by simp, List.map_map]
              apply List.map_congr_left
              intro q hq
              have : q.1 ≠ k := fun z => hr (List.mem_map.mpr ⟨q, hq, z⟩)
              simp [this]
            rw [this]
      · rw [if_neg e]
        have hr : k ∈ keys r := by
          rcases List.mem_cons.mp hk with z | z
          · exact absurd z.symm e
          · exact z
        by_cases hx : p.1 = x
        · rw [show decide (p.1 = x) = true by simp [hx]]
          rw [if_neg (fun z => e (hx.trans z))]
        · rw [show decide (p.1 = x) = false by simp [hx]]
          exact ih hr
  · rw [if_neg h]
    have hk : k ∉ keys kvs := fun z => h (dhas_iff.mpr z)
    unfold dget
    rw [List.find?_append]
    by_cases hx : x = k
    · subst hx
      have := dget_none.mpr hk
      unfold dget at this
      rw [Option.map_eq_none_iff] at this
      rw [this, if_pos rfl]; simp
    · rw [if_neg hx]
      have : List.find? (fun p : κ × ν => decide (p.1 = x)) [(k, v)] = none := by
        rw [List.find?_eq_none]; intro p hp; rw [List.mem_singleton] at hp; subst hp; simp; exact fun z => hx z.symm
      rw [this, Option.or_none]
theorem dput_new {kvs : List (κ × ν)} {k : κ} {v : ν} (h : k ∉ keys kvs) : dput kvs k v = kvs ++ [(k, v)] := by
  rw [dput_eq, if_neg (show ¬ dhas kvs k = true from fun z => h (dhas_iff.mp z))]
theorem mem_keys_foldl (ps : List (κ × ν)) : ∀ (acc : List (κ × ν)) (x : κ), x ∈ keys (ps.foldl (fun acc p => dput acc p.1 p.2) acc) ↔ x ∈ keys acc ∨ x ∈ keys ps := by
  induction ps with
  | nil => intro acc x; simp
  | cons p r ih =>
    intro acc x
    rw [List.foldl_cons, ih, mem_keys_dput]
    show _ ↔ _ ∨ x ∈ p.1 :: keys r
    rw [List.mem_cons]
    constructor
    · rintro ((h | h) | h)
      · exact .inr (.inl h)
      · exact .inl h
      · exact .inr (.inr h)
    · rintro (h | h | h)
      · exact .inl (.inr h)
      · exact .inl (.inl h)
      · exact .inr h
theorem mem_keys_dmk {ps : List (κ × ν)} {x : κ} : x ∈ keys (dmk ps) ↔ x ∈ keys ps := by
  unfold dmk; rw [mem_keys_foldl]; simp
theorem foldl_nodup (ps : List (κ × ν)) : ∀ acc : List (κ × ν), (keys acc).Nodup → (keys (ps.foldl (fun acc p => dput acc p.1 p.2) acc)).Nodup := by
  induction ps with
  | nil => intro acc h; exact h
  | cons p r ih => intro acc h; exact ih _ (dput_nodup h)
theorem dmk_nodup (ps : List (κ × ν)) : (keys (dmk ps)).Nodup := foldl_nodup ps [] List.nodup_nil
theorem dmk_of_nodup {ps : List (κ × ν)} (h : (keys ps).Nodup) : dmk ps = ps := by
  have key : ∀ (ps acc : List (κ × ν)), (keys (acc ++ ps)).Nodup → ps.foldl (fun acc p => dput acc p.1 p.2) acc = acc ++ ps := by
    intro ps
    induction ps with
    | nil => intro acc _; simp
    | cons p r ih =>
      intro acc h
      rw [List.foldl_cons]
      have hp : p.1 ∉ keys acc := by
        intro z
        unfold keys at h z
        rw [List.map_append, List.nodup_append] at h
        exact h.2.2 _ z p.1 (by simp) rfl
      rw [dput_new hp, ih _ (by rw [List.append_assoc]; exact h), List.append_assoc]; rfl
  exact key ps [] h
end
/-- x can be come to from b by n steps -/
def Wkn (nbr : Int → List Int) (b : Int) : Nat → Int → Prop
  | 0, x => x = b
  | n + 1, x => ∃ y, Wkn nbr b n y ∧ x ∈ nbr y
def Dst (nbr : Int → List Int) (b : Int) (n : Nat) (x : Int) : Prop := Wkn nbr b n x ∧ ∀ m, m < n → ¬ Wkn nbr b m x
section
variable {nbr : Int → List Int} {b : Int}
theorem Dst.uniq {n m : Nat} {x : Int} (h : Dst nbr b n x) (k : Dst nbr b m x) : n = m := by
  rcases Nat.lt_trichotomy n m with z | z | z
  · exact absurd h.1 (k.2 n z)
  · exact z
  · exact absurd k.1 (h.2 m z)
theorem Wkn.dst {n : Nat} {x : Int} (h : Wkn nbr b n x) : ∃ m, m ≤ n ∧ Dst nbr b m x := by
  induction n using Nat.strongRecOn with
  | ind n ih =>
    by_cases z : ∃ m, m < n ∧ Wkn nbr b m x
    · obtain ⟨m, h1, h2⟩ := z
      obtain ⟨k, h3, h4⟩ := ih m h1 h2
      exact ⟨k, by omega, h4⟩
    · exact ⟨n, Nat.le_refl _, h, fun m hm hw => z ⟨m, hm, hw⟩⟩
/-- the places found up to level k -/
structure BInv (nbr : Int → List Int) (b : Int) (k : Nat) (found : List (Int × Int)) (level : List Int) : Prop where
  nd : (keys found).Nodup
  has : ∀ x, x ∈ keys found ↔ ∃ n, n ≤ k ∧ Wkn nbr b n x
  val : ∀ x d, dget found x = some d → ∃ n : Nat, d = (n : Int) ∧ Dst nbr b n x
  lv : ∀ x, x ∈ level ↔ Dst nbr b k x
  lnd : level.Nodup
theorem BInv.at {k : Nat} {found : List (Int × Int)} {level : List Int} (h : BInv nbr b k found level) {x : Int} {n : Nat} (hd : Dst nbr b n x) (hn : n ≤ k) : dget found x = some (n : Int) := by
  obtain ⟨v, hv⟩ := dget_some ((h.has x).mpr ⟨n, hn, hd.1⟩)
  obtain ⟨m, h1, h2⟩ := h.val x v hv
  rw [hv, h1, h2.uniq hd]
end
theorem bezout : ∀ (a b : Nat), ∃ x y : Int, (a : Int) * x + (b : Int) * y = (Nat.gcd a b : Nat) := by
  intro a
  induction a using Nat.strongRecOn with
  | ind a ih =>
    intro b
    rcases Nat.eq_zero_or_pos a with h | h
    · subst h; exact ⟨0, 1, by simp⟩
    · obtain ⟨x, y, e⟩ := ih (b % a) (Nat.mod_lt _ h) a
      rw [Nat.gcd_rec a b, ← e]
      refine ⟨y - (b / a : Nat) * x, x, ?_⟩
      have hd : (b : Int) = (a : Int) * ((b / a : Nat) : Int) + ((b % a : Nat) : Int) := by
        have := Nat.div_add_mod b a
        have h2 : ((a * (b / a) + b % a : Nat) : Int) = (b : Int) := by rw [this]
        rw [← h2, Int.natCast_add, Int.natCast_mul]
      rw [hd]
      generalize ((b / a : Nat) : Int) = q
      generalize ((b % a : Nat) : Int) = r
      simp only [Int.mul_sub, Int.add_mul, Int.mul_assoc]
      have : (a : Int) * (q * x) = (a : Int) * q * x := by rw [Int.mul_assoc]
      omega
inductive Rch (R : Int → Int → Prop) : Int → Int → Prop
  | refl (x : Int) : Rch R x x
  | step {x y z : Int} : Rch R x y → R y z → Rch R x z
theorem Rch.trans {R : Int → Int → Prop} {x y z : Int} (h : Rch R x y) (k : Rch R y z) : Rch R x z := by
  induction k with
  | refl => exact h
  | step _ r ih => exact ih.step r
theorem Rch.one {R : Int → Int → Prop} {x y : Int} (h : R x y) : Rch R x y := (Rch.refl x).step h
theorem Rch.symm {R : Int → Int → Prop} (hs : ∀ a b, R a b → R b a) {x y : Int} (h : Rch R x y) : Rch R y x := by
  induction h with
  | refl => exact .refl _
  | step _ r ih => exact (Rch.one (hs _ _ r)).trans ih
/-- two steps on a bench -/
def RA (e a b : Int) (x y : Int) : Prop := 0 ≤ x ∧ x ≤ e ∧ 0 ≤ y ∧ y ≤ e ∧ (y = x + a ∨ y = x - a ∨ y = x + b ∨ y = x - b)
theorem RA.symm {e a b x y : Int} (h : RA e a b x y) : RA e a b y x := by unfold RA at *; omega
theorem cancel_dvd {n p x : Int} (hw : ∃ w k : Int, p * w = 1 + n * k) (h : n ∣ x * p) : n ∣ x := by
  obtain ⟨w, k, e⟩ := hw
  obtain ⟨c, hc⟩ := h
  refine ⟨c * w - k * x, ?_⟩
  have h1 : x * (p * w) = x + x * (n * k) := by rw [e, Int.mul_add, Int.mul_one]
  have h2 : x * (p * w) = n * (c * w) := by rw [← Int.mul_assoc, hc, Int.mul_assoc]
  rw [Int.mul_sub, ← h2, h1]
  have : x * (n * k) = n * (k * x) := by rw [Int.mul_left_comm, Int.mul_comm x k]
  omega
theorem small_dvd {n x : Int} (h : n ∣ x) (h1 : 0 < x) (h2 : x < n) : False := by
  have := Int.le_of_dvd h1 h; omega
section
variable {nbr : Int → List Int} {b : Int}
theorem Wkn.add {n m : Nat} {x y : Int} (h : Wkn nbr b n y) (k : Wkn nbr y m x) : Wkn nbr b (n + m) x := by
  induction m generalizing x with
  | zero => cases (show x = y from k); exact h
  | succ m ih => obtain ⟨z, h1, h2⟩ := k; exact ⟨z, ih h1, h2⟩
theorem Wkn.one {x : Int} (h : x ∈ nbr b) : Wkn nbr b 1 x := ⟨b, rfl, h⟩
theorem Wkn.inv {P : Int → Prop} (hs : ∀ x y, P x → y ∈ nbr x → P y) (hb : P b) : ∀ {n : Nat} {x : Int}, Wkn nbr b n x → P x
  | 0, x, h => by cases (show x = b from h); exact hb
  | n + 1, x, ⟨y, h1, h2⟩ => hs y x (Wkn.inv hs hb h1) h2
theorem Wkn.symm {P : Int → Prop} (hs : ∀ x y, P x → y ∈ nbr x → P y ∧ x ∈ nbr y) (hb : P b) : ∀ {n : Nat} {x : Int}, Wkn nbr b n x → Wkn nbr x n b
  | 0, x, h => by cases (show x = b from h); exact rfl
  | n + 1, x, ⟨y, h1, h2⟩ => by
    have hy : P y := Wkn.inv (fun x y a c => (hs x y a c).1) hb h1
    have := (Wkn.one (hs y x hy h2).2).add (Wkn.symm hs hb h1)
    rw [Nat.add_comm] at this; exact this
theorem Dst.symm {P : Int → Prop} (hs : ∀ x y, P x → y ∈ nbr x → P y ∧ x ∈ nbr y) (hb : P b) {n : Nat} {x : Int} (h : Dst nbr b n x) : Dst nbr x n b := by
  have hx : P x := Wkn.inv (fun x y a c => (hs x y a c).1) hb h.1
  exact ⟨h.1.symm hs hb, fun m hm hw => h.2 m hm (hw.symm hs hx)⟩
end
/-- the fewest times that a step is done: there is one below size, and no other -/
theorem times_uniq {m s g size t u : Int} (hm : 0 < m) (hg : m = g * size) (hgs : ∃ k, s = g * k) (hinv : ∃ w c : Int, (s / g) * w = 1 + size * c) (hg0 : 0 < g) (ht0 : 0 ≤ t) (ht : t < size) (hu0 : 0 ≤ u) (hu : u < size) (h : m ∣ t * s - u * s) : t = u := by
  obtain ⟨k, hk⟩ := hgs
  obtain ⟨w, c, hw⟩ := hinv
  have hdk : s / g = k := by rw [hk]; exact Int.mul_ediv_cancel_left _ (by omega)
  rw [hdk] at hw
  obtain ⟨q, hq⟩ := h
  have h1 : (t - u) * k = size * q := by
    have : g * ((t - u) * k) = g * (size * q) := by
      rw [← Int.mul_assoc g size q, ← hg, ← hq, hk, Int.mul_left_comm, Int.sub_mul]
    exact Int.eq_of_mul_eq_mul_left (by omega) this
  have h2 : size ∣ (t - u) := cancel_dvd ⟨w, c, hw⟩ ⟨q, h1⟩
  rcases Int.lt_trichotomy t u with z | z | z
  · exfalso
    have : size ∣ (u - t) := by rw [show u - t = -(t - u) by omega]; exact Int.dvd_neg.mpr h2
    exact small_dvd this (by omega) (by omega)
  · exact z
  · exact (small_dvd h2 (by omega) (by omega)).elim
open Out (Rt)
theorem mem_uniq {ns : List Int} {k : Int} : k ∈ uniq ns ↔ k ∈ ns := by
  unfold uniq
  rw [mem_isort]
  show k ∈ keys (dmk _) ↔ _
  rw [mem_keys_dmk]
  unfold keys
  rw [List.map_map]
  simp
theorem uniq_lt (ns : List Int) : (uniq ns).Pairwise (· < ·) := isort_lt (dmk_nodup _)
theorem compS_none {α β : Type} {f : Unit → α → Out (Option β × Unit)} (xs : List α) (acc : List β) (h : ∀ x, x ∈ xs → f () x = .ok (none, ())) : Out.compS f xs acc () = .ok (acc, ()) := by
  rw [Out.compS_unit (o := fun _ => none) xs acc h]
  simp
section
variable {X : Cy} {a : Expr} {r : Env2} {G : GD} {pos p0 p1 p2 : Pos}
theorem we_sortU {Q : Res → Env2 → GD → Prop} (hcalm : X.calm = true) (hg : Gl X "sorted") (hm : X.mg "sorted" = none) (hg2 : Gl X "set") (hm2 : X.mg "set" = none)
    (h : WE X a r G fun x r1 G1 => ∃ ns : List Int, VwR r1 G1 x (.lst (ns.map D.int)) ∧ ns.length ≤ 1000 ∧ Q (.fr (.lst ((uniq ns).map D.int))) r1 G1)
    (he : starEach [.Call (.Name "set" p1) [a] [] p2] X.env = (false, eval (.Call (.Name "set" p1) [a] [] p2) X.env) :: starEach [] X.env := by rfl) (hpl : (backTo pos (starEach [] X.env)).any (·.1) = false := by rfl)
    (he2 : starEach [a] X.env = (false, eval a X.env) :: starEach [] X.env := by rfl) (hpl2 : (backTo p2 (starEach [] X.env)).any (·.1) = false := by rfl) :
    WE X (.Call (.Name "sorted" p0) [.Call (.Name "set" p1) [a] [] p2] [] pos) r G Q :=
  we_sortSet hcalm hg hm hg2 hm2 (h.mono fun x r1 G1 ⟨ns, q1, q2, q3⟩ => ⟨ns, q1, q2, fun out h1 h2 => by
    rw [sorted_ext h1 (uniq_lt ns) fun k => by rw [h2, mem_uniq]]
    exact q3⟩) he hpl he2 hpl2
end
open Out (Rt)
def topS (i : Nat) : Stmt := PySem.Challenge.pw_rulerbits_k45_whole_drawings.main.body.getD i (.Pass ⟨0, 0, 0, 0⟩)
abbrev s_drawing : Stmt := topS 8
theorem sc_drawing : FnScope ["ruler", "found", "one", "other"] ["ruler"] (defScope s_drawing) := ⟨rfl, rfl, rfl, by decide +kernel, rfl, by decide +kernel, by decide +kernel⟩
abbrev s_bench_line : Stmt := topS 9
theorem sc_bench_line : FnScope ["bench", "found", "place"] ["bench"] (defScope s_bench_line) := ⟨rfl, rfl, rfl, by decide +kernel, rfl, by decide +kernel, by decide +kernel⟩
abbrev s_is_number : Stmt := topS 24
theorem sc_is_number : FnScope ["value", "lowest", "highest"] ["value", "lowest", "highest"] (defScope s_is_number) := ⟨rfl, rfl, rfl, by decide +kernel, rfl, by decide +kernel, by decide +kernel⟩
abbrev s_spread_of : Stmt := topS 25
theorem sc_spread_of : FnScope ["marks", "found", "place", "mark", "other"] ["marks"] (defScope s_spread_of) := ⟨rfl, rfl, rfl, by decide +kernel, rfl, by decide +kernel, by decide +kernel⟩
abbrev s_Ruler_init : Stmt := inClass (topS 26) 1
theorem sc_Ruler_init : FnScope ["self", "marks", "error", "index", "mark", "lowest"] ["self", "marks", "error"] (defScope s_Ruler_init) := ⟨rfl, rfl, rfl, by decide +kernel, rfl, by decide +kernel, by decide +kernel⟩
abbrev s_Ruler_marks : Stmt := inClass (topS 26) 2
theorem sc_Ruler_marks : FnScope ["self"] ["self"] (defScope s_Ruler_marks) := ⟨rfl, rfl, rfl, by decide +kernel, rfl, by decide +kernel, by decide +kernel⟩
abbrev s_Ruler_error : Stmt := inClass (topS 26) 3
theorem sc_Ruler_error : FnScope ["self"] ["self"] (defScope s_Ruler_error) := ⟨rfl, rfl, rfl, by decide +kernel, rfl, by decide +kernel, by decide +kernel⟩
abbrev s_Ruler_length : Stmt := inClass (topS 26) 4
theorem sc_Ruler_length : FnScope ["self"] ["self"] (defScope s_Ruler_length) := ⟨rfl, rfl, rfl, by decide +kernel, rfl, by decide +kernel, by decide +kernel⟩
abbrev s_Ruler_spans : Stmt := inClass (topS 26) 6
theorem sc_Ruler_spans : FnScope ["self", "span"] ["self"] (defScope s_Ruler_spans) := ⟨rfl, rfl, rfl, by decide +kernel, rfl, by decide +kernel, by decide +kernel⟩
abbrev s_validate_places : Stmt := topS 29
theorem sc_validate_places : FnScope ["end", "places", "place"] ["end", "places"] (defScope s_validate_places) := ⟨rfl, rfl, rfl, by decide +kernel, rfl, by decide +kernel, by decide +kernel⟩
abbrev s_is_name : Stmt := topS 34
theorem sc_is_name : FnScope ["name", "letter"] ["name"] (defScope s_is_name) := ⟨rfl, rfl, rfl, by decide +kernel, rfl, by decide +kernel, by decide +kernel⟩
abbrev s_Rack_init : Stmt := inClass (topS 35) 1
theorem sc_Rack_init : FnScope ["self", "rulers", "place", "name"] ["self", "rulers"] (defScope s_Rack_init) := ⟨rfl, rfl, rfl, by decide +kernel, rfl, by decide +kernel, by decide +kernel⟩
abbrev s_Rack_getitem : Stmt := inClass (topS 35) 4
theorem sc_Rack_getitem : FnScope ["self", "name"] ["self", "name"] (defScope s_Rack_getitem) := ⟨rfl, rfl, rfl, by decide +kernel, rfl, by decide +kernel, by decide +kernel⟩
abbrev s_Scene_init : Stmt := inClass (topS 40) 1
theorem sc_Scene_init : FnScope ["self", "spot", "laid", "errors", "cuts"] ["self", "spot", "laid", "errors", "cuts"] (defScope s_Scene_init) := ⟨rfl, rfl, rfl, by decide +kernel, rfl, by decide +kernel, by decide +kernel⟩
abbrev s_Bench_init : Stmt := inClass (topS 41) 0
theorem sc_Bench_init : FnScope ["self", "rack", "end"] ["self", "rack", "end"] (defScope s_Bench_init) := ⟨rfl, rfl, rfl, by decide +kernel, rfl, by decide +kernel, by decide +kernel⟩
abbrev s_Bench_place : Stmt := inClass (topS 41) 2
theorem sc_Bench_place : FnScope ["self"] ["self"] (defScope s_Bench_place) := ⟨rfl, rfl, rfl, by decide +kernel, rfl, by decide +kernel, by decide +kernel⟩
abbrev s_Bench_scratches : Stmt := inClass (topS 41) 5
theorem sc_Bench_scratches : FnScope ["self"] ["self"] (defScope s_Bench_scratches) := ⟨rfl, rfl, rfl, by decide +kernel, rfl, by decide +kernel, by decide +kernel⟩
abbrev s_Bench_enter : Stmt := inClass (topS 41) 8
theorem sc_Bench_enter : FnScope ["self", "operation", "scene", "marked"] ["self", "operation", "scene", "marked"] (defScope s_Bench_enter) := ⟨rfl, rfl, rfl, by decide +kernel, rfl, by decide +kernel, by decide +kernel⟩
abbrev s_Bench_laid_on : Stmt := inClass (topS 41) 9
theorem sc_Bench_laid_on : FnScope ["self", "row", "spot", "errors", "name", "step"] ["self", "row"] (defScope s_Bench_laid_on) := ⟨rfl, rfl, rfl, by decide +kernel, rfl, by decide +kernel, by decide +kernel⟩
abbrev s_Bench_lay : Stmt := inClass (topS 41) 10
theorem sc_Bench_lay : FnScope ["self", "name", "step", "ruler"] ["self", "name", "step"] (defScope s_Bench_lay) := ⟨rfl, rfl, rfl, by decide +kernel, rfl, by decide +kernel, by decide +kernel⟩
abbrev s_Bench_scratch : Stmt := inClass (topS 41) 12
theorem sc_Bench_scratch : FnScope ["self", "scene", "is_new", "cuts"] ["self"] (defScope s_Bench_scratch) := ⟨rfl, rfl, rfl, by decide +kernel, rfl, by decide +kernel, by decide +kernel⟩
abbrev s_law_mix : Stmt := topS 43
theorem sc_law_mix : FnScope ["_law_script", "_law_seed", "_law_state", "_law_cell"] ["_law_script", "_law_seed"] (defScope s_law_mix) := ⟨rfl, rfl, rfl, by decide +kernel, rfl, by decide +kernel, by decide +kernel⟩
abbrev s_law_next : Stmt := topS 44
theorem sc_law_next : FnScope ["_law_h", "_law_limit", "_law_cell"] ["_law_h", "_law_limit"] (defScope s_law_next) := ⟨rfl, rfl, rfl, by decide +kernel, rfl, by decide +kernel, by decide +kernel⟩
abbrev s_law_alike : Stmt := topS 45
theorem sc_law_alike : FnScope ["_law_found", "_law_due", "_law_k"] ["_law_found", "_law_due"] (defScope s_law_alike) := ⟨rfl, rfl, rfl, by decide +kernel, rfl, by decide +kernel, by decide +kernel⟩
abbrev s_law_marks : Stmt := topS 46
theorem sc_law_marks : FnScope ["_law_h", "_law_most", "_law_wide", "_law_found", "_law_k"] ["_law_h", "_law_most", "_law_wide"] (defScope s_law_marks) := ⟨rfl, rfl, rfl, by decide +kernel, rfl, by decide +kernel, by decide +kernel⟩
abbrev s_law_drawn : Stmt := topS 47
theorem sc_law_drawn : FnScope ["_law_h", "_law_most", "_law_wide", "_law_found", "_law_name"] ["_law_h", "_law_most", "_law_wide"] (defScope s_law_drawn) := ⟨rfl, rfl, rfl, by decide +kernel, rfl, by decide +kernel, by decide +kernel⟩
abbrev s_law_rack : Stmt := topS 48
theorem sc_law_rack : FnScope ["_law_drawn_here", "_law_name"] ["_law_drawn_here"] (defScope s_law_rack) := ⟨rfl, rfl, rfl, by decide +kernel, rfl, by decide +kernel, by decide +kernel⟩
abbrev s_law_spans : Stmt := topS 49
theorem sc_law_spans : FnScope ["_law_marks_here", "_law_found", "_law_k", "_law_j"] ["_law_marks_here"] (defScope s_law_spans) := ⟨rfl, rfl, rfl, by decide +kernel, rfl, by decide +kernel, by decide +kernel⟩
abbrev s_law_steps : Stmt := topS 50
theorem sc_law_steps : FnScope ["_law_drawn_here", "_law_found", "_law_name", "_law_span"] ["_law_drawn_here"] (defScope s_law_steps) := ⟨rfl, rfl, rfl, by decide +kernel, rfl, by decide +kernel, by decide +kernel⟩
abbrev s_law_row : Stmt := topS 51
theorem sc_law_row : FnScope ["_law_h", "_law_drawn_here", "_law_most", "_law_steps_here", "_law_found", "_law_k"] ["_law_h", "_law_drawn_here", "_law_most"] (defScope s_law_row) := ⟨rfl, rfl, rfl, by decide +kernel, rfl, by decide +kernel, by decide +kernel⟩
abbrev s_law : Stmt := topS 52
theorem sc_law : FnScope ["_law_script", "_law_h", "_law_turn", "_law_marks_here", "_law_due", "_law_place", "_law_drawn_here", "_law_end", "_law_bench", "_law_cuts", "_law_name", "_law_step", "_law_k"] ["_law_script"] (defScope s_law) := ⟨rfl, rfl, rfl, by decide +kernel, rfl, by decide +kernel, by decide +kernel⟩
abbrev z_lay : S := ⟨"lay", by decide +kernel⟩
abbrev z_scratch : S := ⟨"scratch", by decide +kernel⟩
abbrev z_abcdefghijklmnopqrst : S := ⟨"abcdefghijklmnopqrstuvwxyz", by decide +kernel⟩
abbrev z__ : S := ⟨"|", by decide +kernel⟩
abbrev z___ : S := ⟨"-", by decide +kernel⟩
abbrev z_ : S := ⟨"", by decide +kernel⟩
abbrev z____ : S := ⟨"@", by decide +kernel⟩
abbrev z_x : S := ⟨"x", by decide +kernel⟩
abbrev z_____ : S := ⟨".", by decide +kernel⟩
abbrev z_ash : S := ⟨"ash", by decide +kernel⟩
abbrev z_bay : S := ⟨"bay", by decide +kernel⟩
abbrev z_elm : S := ⟨"elm", by decide +kernel⟩
abbrev z_fir : S := ⟨"fir", by decide +kernel⟩
abbrev z_oak : S := ⟨"oak", by decide +kernel⟩
abbrev z_yew : S := ⟨"yew", by decide +kernel⟩
abbrev z__12_49_ : S := ⟨"|12|49|", by decide +kernel⟩
structure S_Bench where
  rack_used : Rak
  last : Int
  scene : Scn
  marked : List (S × Scn)
  past : List ((List At × Scn × List (S × Scn) × Scn × List (S × Scn)))
  later : List ((List At × Scn × List (S × Scn) × Scn × List (S × Scn)))
def mixB (ns : List Int) (seed : Int) : Int := ns.foldl (fun s n => (s * 48271 + n % 2147483629 + 1) % 2147483647) seed
def m_law_mix (ns : List Int) (h : ns.length ≤ 63) (seed : Int) : Bh := ⟨(ns, mixB ns seed, 0), h⟩
def m_law_next (m : Int) (bx : Bh) : Out (Int × Bh) :=
  (Out.guard (0 < m ∧ m < 2 ^ 200)).bind fun _ =>
  (Out.get (pix (bx.1.1 ++ [0]) (bx.1.2.2 % (if ((bx.1.1.length : Nat) : Int) > 1 then ((bx.1.1.length : Nat) : Int) else 1)))).bind fun cell =>
  if 1000000000000000000 ≤ cell then
    (Out.get (L2.ixN bx.1.1.length (bx.1.2.2 % ((bx.1.1.length : Nat) : Int)))).bind fun j =>
    (Out.guard (0 < ((bx.1.1.length : Nat) : Int))).bind fun _ => .ok (cell % m, ⟨(bx.1.1.set j (cell / m), bx.1.2), by rw [List.length_set]; exact bx.2⟩)
  else .ok ((bx.1.2.1 * 48271 + cell * 69621 + 11) % 2147483647 / 7 % m, ⟨(bx.1.1, (bx.1.2.1 * 48271 + cell * 69621 + 11) % 2147483647, bx.1.2.2 + 1), bx.2⟩)
def m_is_number (value1 : Int) (lowest2 : Int) (highest3 : Int) : Bool := (true && ((!false) && ((decide (lowest2 ≤ value1)) && (decide (value1 ≤ highest3)))))
def mk_Ruler (marks1 : List Int) (error2 : Int) : Out (Rul) :=
(Out.fold (σ := Unit) (fun s3 (x5 : (Int × Int)) =>
(if (decide (x5.1 = (0 : Int))) = true then (Out.ok (0 : Int)) else ((Out.get (pix marks1 (x5.1 - (1 : Int)))).bind fun x8 =>
Out.ok (x8 + (1 : Int)))).bind fun i7 =>
if ((decide (x5.1 = (12 : Int))) || (!(m_is_number x5.2 i7 (if (decide (x5.1 = (0 : Int))) = true then (0 : Int) else (300 : Int))))) = true then (
Out.no)
else (
Out.ok ())) (penum marks1) ()).bind fun s4 =>
if (decide (((marks1).length : Int) < (2 : Int))) = true then (
Out.no)
else (
if (!(m_is_number error2 (0 : Int) (9 : Int))) = true then (
Out.no)
else (
Out.ok ⟨error2, marks1⟩))
def m_Ruler_marks (self1 : Rul) : List Int := self1.marks
def m_Ruler_error (self1 : Rul) : Int := self1.error
def m_Ruler_length (self1 : Rul) : Out (Int) :=
(Out.get (pix self1.marks (-(1 : Int)))).bind fun x2 =>
Out.ok x2
def m_spread_of (marks1 : List Int) : Out (List Int) :=
(Out.ok ([] : List Int)).bind fun found2 =>
(Out.fold (σ := List Int) (fun s3 (x5 : (Int × Int)) =>
(Out.guard ((s3).length + ((pcut marks1 (some (x5.1 + (1 : Int))) none).map (fun (x8 : Int) => x8 - x5.2)).length ≤ LIM)).bind fun _ =>
(Out.ok (s3 ++ ((pcut marks1 (some (x5.1 + (1 : Int))) none).map (fun (x8 : Int) => x8 - x5.2)))).bind fun found11 =>
Out.ok found11) (penum marks1) found2).bind fun s4 =>
Out.ok (isort s4)
def m_Ruler_spans (self1 : Rul) : Out (List Int) :=
(m_spread_of self1.marks).bind fun r3 =>
Out.ok (isort ((dmk (r3.map (fun (x2 : Int) => (x2, true)))).map (·.1)))
def m_is_name (name1 : S) : Out (Bool) :=
(if (!true) = true then Out.ok true else ((Out.guard (name1.1.length ≤ LIM)).bind fun _ =>
Out.ok (!((decide ((1 : Int) ≤ (name1.1.length : Int))) && (decide ((name1.1.length : Int) ≤ (8 : Int))))))).bind fun c2 =>
if c2 = true then (
Out.ok false)
else (
(Out.guard ((chrs name1).length ≤ LIM)).bind fun _ =>
Out.ok (decide ((((chrs name1).filter (fun (x4 : Chr) => !decide (x4 ∈ chrs z_abcdefghijklmnopqrst))).map (fun (x4 : Chr) => x4)) = ([] : List Chr))))
def mk_Rack (rulers1 : List (S × Rul)) : Out (Rak) :=
(Out.fold (σ := Unit) (fun s2 (x4 : (Int × S)) =>
(if (decide (x4.1 = (6 : Int))) = true then Out.ok true else ((m_is_name x4.2).bind fun r7 =>
Out.ok (!r7))).bind fun c6 =>
if c6 = true then (
Out.no)
else (
Out.ok ())) (penum (rulers1.map (·.1))) ()).bind fun s3 =>
if ((rulers1).isEmpty) = true then (
Out.no)
else (
(Out.guard ((rulers1).length < 64)).bind fun _ =>
(Out.compS (fun (s11 : Unit) (x8 : S) =>
(Out.get (dget rulers1 x8)).bind fun x13 =>
Out.ok (some (x8, x13), ())) (ssort (rulers1.map (·.1))) [] ()).bind fun l12 =>
Out.ok ⟨dmk l12.1⟩)
def m_Rack___getitem (self1 : Rak) (name2 : S) : Out (Rul) :=
if (!dhas self1.held name2) = true then (
Out.no)
else (
(Out.get (dget self1.held name2)).bind fun x3 =>
Out.ok x3)
def m_validate_places (end1 : Int) (places2 : List Int) : Out (Unit) :=
if (!(m_is_number end1 (1 : Int) (200 : Int))) = true then (
Out.no)
else (
(Out.fold (σ := Unit) (fun s4 (x6 : Int) =>
if (!(m_is_number x6 (0 : Int) end1)) = true then (
Out.no)
else (
Out.ok ())) places2 ()).bind fun s5 =>
Out.ok ())
def mk_Scene (spot1 : Int) (laid2 : Int) (errors3 : Int) (cuts4 : List Int) : Out (Scn) :=
Out.ok ⟨cuts4, errors3, laid2, spot1⟩
def mk_Bench (rack1 : Rak) (end2 : Int) : Out S_Bench :=
(m_validate_places end2 ([] : List Int)).bind fun r3 =>
(mk_Scene (0 : Int) (0 : Int) (0 : Int) ([] : List Int)).bind fun r7 =>
Out.ok (⟨rack1, end2, r7, [], ([] : List ((List At × Scn × List (S × Scn) × Scn × List (S × Scn)))), ([] : List ((List At × Scn × List (S × Scn) × Scn × List (S × Scn))))⟩ : S_Bench)
def m_Bench_place (self1 : S_Bench) : Int := self1.scene.spot
def m_Bench_scratches (self1 : S_Bench) : List Int := self1.scene.cuts
def m_Bench_enter (self1 : S_Bench) (operation2 : List At) (scene3 : Scn) (marked4 : List (S × Scn)) : Out (Unit × S_Bench) :=
(Out.guard ((self1.past).length < LIM)).bind fun _ =>
Out.ok ((), (⟨self1.rack_used, self1.last, (scene3, marked4).1, (scene3, marked4).2, self1.past ++ [(operation2, self1.scene, self1.marked, scene3, marked4)], ([] : List ((List At × Scn × List (S × Scn) × Scn × List (S × Scn))))⟩ : S_Bench))
def m_Bench_laid_on (self1 : S_Bench) (row2 : List ((S × Int))) : Out (Scn) :=
(Out.ok self1.scene.spot).bind fun spot3 =>
(Out.ok self1.scene.errors).bind fun errors4 =>
(Out.fold (σ := Int × Int) (fun s5 (x7 : (S × Int)) =>
(Out.ok (s5.1 + x7.2)).bind fun spot9 =>
((m_Rack___getitem self1.rack_used x7.1).nox).bind fun r10 =>
(Out.ok (s5.2 + (m_Ruler_error r10))).bind fun errors12 =>
Out.ok (spot9, errors12)) row2 (spot3, errors4)).bind fun s6 =>
(mk_Scene s6.1 (self1.scene.laid + ((row2).length : Int)) s6.2 self1.scene.cuts).bind fun r13 =>
Out.ok r13
def m_Bench_lay (self1 : S_Bench) (name2 : S) (step3 : Int) : Out (Int × S_Bench) :=
((m_Rack___getitem self1.rack_used name2).nox).bind fun r4 =>
((m_Ruler_length r4).nox).bind fun r6 =>
((m_Ruler_length r4).nox).bind fun r7 =>
(if (!(m_is_number step3 ((0 : Int) - r6) r7)) = true then Out.ok true else (((m_Ruler_spans r4).nox).bind fun r9 =>
Out.ok (!decide ((if step3 < 0 then -step3 else step3) ∈ r9)))).bind fun c5 =>
if c5 = true then (
Out.no)
else (
if (!((decide ((0 : Int) ≤ (self1.scene.spot + step3))) && (decide ((self1.scene.spot + step3) ≤ self1.last)))) = true then (
Out.no)
else (
(m_Bench_laid_on self1 [(name2, step3)]).bind fun r10 =>
(m_Bench_enter self1 [At.s z_lay, At.s name2, At.i step3] r10 self1.marked).bind fun r11 =>
Out.ok (r11.2.scene.spot, r11.2)))
def m_Bench_scratch (self1 : S_Bench) : Out (Bool × S_Bench) :=
(Out.ok (!decide (self1.scene.spot ∈ self1.scene.cuts))).bind fun is_new2 =>
(if is_new2 = true then ((Out.guard ((self1.scene.cuts).length + ([self1.scene.spot]).length ≤ LIM)).bind fun _ =>
Out.ok (dsort eI (self1.scene.cuts ++ [self1.scene.spot]))) else (Out.ok self1.scene.cuts)).bind fun i3 =>
(mk_Scene self1.scene.spot self1.scene.laid self1.scene.errors i3).bind fun r5 =>
(m_Bench_enter self1 [At.s z_scratch] r5 self1.marked).bind fun r6 =>
Out.ok (is_new2, r6.2)
def m_drawing (ruler1 : Rul) : Out (S) :=
(Out.guard ((m_Ruler_marks ruler1).length ≤ LIM)).bind fun _ =>
(Out.fold (σ := S) (fun s2 (x4 : (Int × Int)) =>
((m_Ruler_length ruler1).nox).bind fun r10 =>
(if (decide (r10 ≤ (60 : Int))) = true then ((Out.guard (z___.1.length ≤ 64 ∧ -1000 ≤ ((x4.2 - x4.1) - (1 : Int)) ∧ ((x4.2 - x4.1) - (1 : Int)) ≤ 1000)).bind fun _ =>
Out.ok (zmul z___ ((x4.2 - x4.1) - (1 : Int)))) else ((Out.guard (ziOk (x4.2 - x4.1))).bind fun _ =>
Out.ok (zint (x4.2 - x4.1)))).bind fun i9 =>
(Out.guard (s2.1.length + i9.1.length ≤ LIM)).bind fun _ =>
(Out.ok (zcat s2 i9)).bind fun found14 =>
(Out.guard (found14.1.length + z__.1.length ≤ LIM)).bind fun _ =>
(Out.ok (zcat found14 z__)).bind fun found16 =>
Out.ok found16) ((m_Ruler_marks ruler1).zip (pcut (m_Ruler_marks ruler1) (some (1 : Int)) none)) z__).bind fun s3 =>
Out.ok s3
def m_bench_line (self1 : S_Bench) : Out (S) :=
(Out.guard (RG (self1.last + (1 : Int)))).bind fun _ =>
(Out.fold (σ := S) (fun s2 (x4 : Int) =>
(if (decide (x4 = m_Bench_place self1)) = true then (
(Out.guard (s2.1.length + z____.1.length ≤ LIM)).bind fun _ =>
(Out.ok (zcat s2 z____)).bind fun found8 =>
Out.ok found8)
else (
(Out.guard (s2.1.length + (if (decide (x4 ∈ (m_Bench_scratches self1))) = true then z_x else z_____).1.length ≤ LIM)).bind fun _ =>
(Out.ok (zcat s2 (if (decide (x4 ∈ (m_Bench_scratches self1))) = true then z_x else z_____))).bind fun found10 =>
Out.ok found10) : Out (S)).bind fun s6 =>
Out.ok s6) (rgI 0 (self1.last + (1 : Int))) z_).bind fun s3 =>
Out.ok s3
def m_law_marks (most1 : Int) (wide2 : Int) (bx : Bh) : Out (List Int × Bh) :=
(Out.ok [(0 : Int)]).bind fun found3 =>
(m_law_next (most1 - (1 : Int)) bx).bind fun r7 =>
(Out.guard (RG ((1 : Int) + r7.1))).bind fun _ =>
(Out.fold (σ := (List Int) × Bh) (fun s4 (x6 : Int) =>
(Out.get (pix s4.1 (-(1 : Int)))).bind fun x10 =>
(m_law_next wide2 s4.2).bind fun r11 =>
(Out.guard ((s4.1).length < LIM)).bind fun _ =>
(Out.ok (s4.1 ++ [(x10 + (1 : Int)) + r11.1])).bind fun found13 =>
Out.ok (found13, r11.2)) (rgI 0 ((1 : Int) + r7.1)) (found3, r7.2)).bind fun s5 =>
Out.ok (s5.1, s5.2)
def m_law_drawn (most1 : Int) (wide2 : Int) (bx : Bh) : Out (List (S × (List Int × Int)) × Bh) :=
(Out.ok ([] : List (S × (List Int × Int)))).bind fun found3 =>
(m_law_next most1 bx).bind fun r7 =>
(Out.fold (σ := (List (S × (List Int × Int))) × Bh) (fun s4 (x6 : S) =>
(m_law_marks (4 : Int) wide2 s4.2).bind fun r9 =>
(m_law_next (4 : Int) r9.2).bind fun r10 =>
(Out.get (pix [(0 : Int), (0 : Int), (1 : Int), (2 : Int)] r10.1)).bind fun x11 =>
(Out.guard ((s4.1).length < LIM)).bind fun _ =>
(Out.ok (dput s4.1 x6 (r9.1, x11))).bind fun found13 =>
Out.ok (found13, r10.2)) (pcut [z_ash, z_bay, z_elm, z_fir, z_oak, z_yew] none (some ((1 : Int) + r7.1))) (found3, r7.2)).bind fun s5 =>
Out.ok (s5.1, s5.2)
def m_law_rack (drawn_here1 : List (S × (List Int × Int))) : Out (Rak) :=
(Out.compS (fun (s4 : Unit) (x2 : S) =>
(Out.get (dget drawn_here1 x2)).bind fun x6 =>
(Out.get (dget drawn_here1 x2)).bind fun x7 =>
((mk_Ruler x6.1 x7.2).nox).bind fun r8 =>
Out.ok (some (x2, r8), ())) (drawn_here1.map (·.1)) [] ()).bind fun l5 =>
(mk_Rack (dmk l5.1)).bind fun r9 =>
Out.ok r9
def m_law_spans (marks_here1 : List Int) : Out (List Int) :=
(Out.ok ([] : List Int)).bind fun found2 =>
(Out.guard (RG ((marks_here1).length : Int))).bind fun _ =>
(Out.fold (σ := List Int) (fun s3 (x5 : Int) =>
(Out.guard (RG (x5 + (1 : Int)))).bind fun _ =>
(Out.guard (RG ((marks_here1).length : Int))).bind fun _ =>
(Out.guard ((rgI (x5 + (1 : Int)) ((marks_here1).length : Int)).length ≤ LIM)).bind fun _ =>
(Out.compS (fun (s11 : Unit) (x7 : Int) =>
(Out.get (pix marks_here1 x7)).bind fun x13 =>
(Out.get (pix marks_here1 x5)).bind fun x14 =>
Out.ok (some (x13 - x14), ())) (rgI (x5 + (1 : Int)) ((marks_here1).length : Int)) [] ()).bind fun l12 =>
(Out.guard ((s3).length + (l12.1).length ≤ LIM)).bind fun _ =>
(Out.ok (s3 ++ l12.1)).bind fun found16 =>
Out.ok found16) (rgI 0 ((marks_here1).length : Int)) found2).bind fun s4 =>
(Out.guard ((s4).length ≤ 1000)).bind fun _ =>
Out.ok (uniq s4)
def m_law_steps (drawn_here1 : List (S × (List Int × Int))) : Out (List ((S × Int))) :=
(Out.ok ([] : List ((S × Int)))).bind fun found2 =>
(Out.fold (σ := List ((S × Int))) (fun s3 (x5 : S) =>
(Out.get (dget drawn_here1 x5)).bind fun x10 =>
(m_law_spans x10.1).bind fun r11 =>
(Out.fold (σ := List ((S × Int))) (fun s7 (x9 : Int) =>
(Out.guard ((s7).length + ([(x5, x9), (x5, (0 : Int) - x9)]).length ≤ LIM)).bind fun _ =>
(Out.ok (s7 ++ [(x5, x9), (x5, (0 : Int) - x9)])).bind fun found14 =>
Out.ok found14) r11 s3).bind fun s8 =>
Out.ok s8) (drawn_here1.map (·.1)) found2).bind fun s4 =>
Out.ok (psort s4)
def m_law_row (drawn_here1 : List (S × (List Int × Int))) (most2 : Int) (bx : Bh) : Out (List ((S × Int)) × Bh) :=
(m_law_steps drawn_here1).bind fun r3 =>
(Out.ok r3).bind fun steps_here4 =>
(Out.ok ([] : List ((S × Int)))).bind fun found5 =>
(m_law_next most2 bx).bind fun r9 =>
(Out.guard (RG ((1 : Int) + r9.1))).bind fun _ =>
(Out.fold (σ := (List ((S × Int))) × Bh) (fun s6 (x8 : Int) =>
(m_law_next ((steps_here4).length : Int) s6.2).bind fun r12 =>
(Out.get (pix steps_here4 r12.1)).bind fun x13 =>
(Out.guard ((s6.1).length < LIM)).bind fun _ =>
(Out.ok (s6.1 ++ [x13])).bind fun found15 =>
Out.ok (found15, r12.2)) (rgI 0 ((1 : Int) + r9.1)) (found5, r9.2)).bind fun s7 =>
Out.ok (s7.1, s7.2)
def m_law (script1 : List Int) : Out (Bool) :=
(Out.guard ((script1).length ≤ 63)).bind fun _ =>
(Out.loop (σ := Bh) (ρ := (Bool × Bh)) (fun s3 (x5 : Int) =>
(m_law_next (3 : Int) s3).bind fun r9 =>
(Out.get (pix [(5 : Int), (9 : Int), (25 : Int)] r9.1)).bind fun x10 =>
(m_law_marks (12 : Int) x10 r9.2).bind fun r11 =>
(Out.ok r11.1).bind fun marks_here12 =>
(Out.ok z_).bind fun due13 =>
(Out.get (pix marks_here12 (-(1 : Int)))).bind fun x17 =>
(Out.guard (RG (x17 + (1 : Int)))).bind fun _ =>
(Out.fold (σ := S) (fun s14 (x16 : Int) =>
(Out.guard (s14.1.length + (if (decide (x16 ∈ marks_here12)) = true then z__ else z___).1.length ≤ LIM)).bind fun _ =>
(Out.ok (zcat s14 (if (decide (x16 ∈ marks_here12)) = true then z__ else z___))).bind fun due20 =>
Out.ok due20) (rgI 0 (x17 + (1 : Int))) due13).bind fun s15 =>
((Out.get (pix marks_here12 (-(1 : Int)))).bind fun x22 =>
if (decide ((60 : Int) < x22)) = true then (
(Out.guard (RG ((marks_here12).length : Int))).bind fun _ =>
(Out.guard ((rgI (1 : Int) ((marks_here12).length : Int)).length ≤ LIM)).bind fun _ =>
(Out.compS (fun (s26 : Unit) (x23 : Int) =>
(Out.get (pix marks_here12 x23)).bind fun x28 =>
(Out.get (pix marks_here12 (x23 - (1 : Int)))).bind fun x29 =>
(Out.guard (ziOk (x28 - x29))).bind fun _ =>
(Out.guard ((zint (x28 - x29)).1.length + z__.1.length ≤ LIM)).bind fun _ =>
Out.ok (some (zcat (zint (x28 - x29)) z__), ())) (rgI (1 : Int) ((marks_here12).length : Int)) [] ()).bind fun l27 =>
(Out.guard ((l27.1.map (·.1.length)).sum + l27.1.length * z_.1.length ≤ LIM)).bind fun _ =>
(Out.guard (z__.1.length + (zjoin z_ l27.1).1.length ≤ LIM)).bind fun _ =>
(Out.ok (zcat z__ (zjoin z_ l27.1))).bind fun due34 =>
Out.ok due34)
else (
Out.ok s15) : Out (S)).bind fun s21 =>
(mk_Ruler marks_here12 (0 : Int)).bind fun r35 =>
(m_drawing r35).bind fun r36 =>
(Out.guard (r36 = s21 ∧ alB 0 (eZ r36) = true)).bind fun _ =>
if (!true) = true then (
Out.ok (.rt (false, r11.2)))
else (
(m_law_drawn (2 : Int) (5 : Int) r11.2).bind fun r38 =>
(m_law_next (30 : Int) r38.2).bind fun r39 =>
(Out.ok r38.1).bind fun drawn_here40 =>
(Out.ok ((1 : Int) + r39.1)).bind fun end41 =>
(m_law_rack drawn_here40).bind fun r42 =>
(mk_Bench r42 end41).bind fun r43 =>
(Out.ok (0 : Int)).bind fun place46 =>
(Out.ok ([] : List Int)).bind fun cuts47 =>
(m_law_row drawn_here40 (9 : Int) r39.2).bind fun r51 =>
(Out.fold (σ := Int × (List Int) × S_Bench × Bh) (fun s48 (x50 : (S × Int)) =>
(if ((decide ((0 : Int) ≤ (s48.1 + x50.2))) && (decide ((s48.1 + x50.2) ≤ end41))) = true then (
(m_Bench_lay s48.2.2.1 x50.1 x50.2).bind fun r62 =>
((m_law_next (2 : Int) s48.2.2.2).bind fun r66 =>
if (decide (r66.1 = (0 : Int))) = true then (
(m_Bench_scratch r62.2).bind fun r69 =>
(Out.guard ((s48.2.1).length < LIM)).bind fun _ =>
(Out.ok (s48.2.1 ++ [r62.1])).bind fun cuts73 =>
Out.ok (cuts73, r69.2, r66.2))
else (
Out.ok (s48.2.1, r62.2, r66.2)) : Out ((List Int) × S_Bench × Bh)).bind fun s64 =>
Out.ok (r62.1, s64.1, s64.2.1, s64.2.2))
else (
Out.ok (s48.1, s48.2.1, s48.2.2.1, s48.2.2.2)) : Out (Int × (List Int) × S_Bench × Bh)).bind fun s56 =>
Out.ok (s56.1, s56.2.1, s56.2.2.1, s56.2.2.2)) r51.1 (place46, cuts47, r43, r51.2)).bind fun s49 =>
(Out.guard (RG (end41 + (1 : Int)))).bind fun _ =>
(Out.guard ((rgI 0 (end41 + (1 : Int))).length ≤ LIM)).bind fun _ =>
(Out.guard ((((rgI 0 (end41 + (1 : Int))).map (fun (x74 : Int) => if (decide (x74 = s49.1)) = true then z____ else if (decide (x74 ∈ s49.2.1)) = true then z_x else z_____)).map (·.1.length)).sum + ((rgI 0 (end41 + (1 : Int))).map (fun (x74 : Int) => if (decide (x74 = s49.1)) = true then z____ else if (decide (x74 ∈ s49.2.1)) = true then z_x else z_____)).length * z_.1.length ≤ LIM)).bind fun _ =>
(Out.ok (zjoin z_ ((rgI 0 (end41 + (1 : Int))).map (fun (x74 : Int) => if (decide (x74 = s49.1)) = true then z____ else if (decide (x74 ∈ s49.2.1)) = true then z_x else z_____)))).bind fun due78 =>
(m_bench_line s49.2.2.1).bind fun r81 =>
(Out.guard (r81 = due78 ∧ alB 0 (eZ r81) = true)).bind fun _ =>
if (!true) = true then (
Out.ok (.rt (false, s49.2.2.2)))
else (
Out.ok (.nx s49.2.2.2)))) (rgI 0 (5 : Int)) (mixT m_law_mix script1 (45 : Int))).bind fun t => match t with
| .nx s4 => (
(mk_Ruler [(0 : Int), (60 : Int)] (9 : Int)).bind fun r83 =>
(m_drawing r83).bind fun r84 =>
(Out.guard (z___.1.length ≤ 64 ∧ -1000 ≤ (59 : Int) ∧ (59 : Int) ≤ 1000)).bind fun _ =>
(Out.guard (z__.1.length + (zmul z___ (59 : Int)).1.length ≤ LIM)).bind fun _ =>
(Out.guard ((zcat z__ (zmul z___ (59 : Int))).1.length + z__.1.length ≤ LIM)).bind fun _ =>
(if (decide (r84 = (zcat (zcat z__ (zmul z___ (59 : Int))) z__))) = true then ((mk_Ruler [(0 : Int), (12 : Int), (61 : Int)] (9 : Int)).bind fun r89 =>
(m_drawing r89).bind fun r90 =>
Out.ok (decide (r90 = z__12_49_))) else Out.ok false).bind fun c88 =>
Out.ok c88)
| .rt v => Out.ok v.1
structure RulOk (r : Rul) : Prop where
  lt : r.marks.Pairwise (· < ·)
  hd : r.marks[0]? = some 0
  lo : 2 ≤ r.marks.length
  hi : r.marks.length ≤ 12
  le : ∀ m, m ∈ r.marks → m ≤ 300
  e0 : 0 ≤ r.error
  e9 : r.error ≤ 9
theorem isnum_iff {v a b : Int} : m_is_number v a b = true ↔ a ≤ v ∧ v ≤ b := by unfold m_is_number; simp
theorem isnum_t {v a b : Int} (h1 : a ≤ v) (h2 : v ≤ b) : m_is_number v a b = true := isnum_iff.mpr ⟨h1, h2⟩
theorem pairwise_get {xs : List Int} (h : xs.Pairwise (· < ·)) {i j : Nat} {x y : Int} (hx : xs[i]? = some x) (hy : xs[j]? = some y) (hij : i < j) : x < y := by
  obtain ⟨h1, rfl⟩ := List.getElem?_eq_some_iff.mp hx
  obtain ⟨h2, rfl⟩ := List.getElem?_eq_some_iff.mp hy
  exact List.pairwise_iff_getElem.mp h i j h1 h2 hij
theorem RulOk.nn {r : Rul} (h : RulOk r) {m : Int} (hm : m ∈ r.marks) : 0 ≤ m := by
  obtain ⟨i, hi, rfl⟩ := List.getElem_of_mem hm
  rcases Nat.eq_zero_or_pos i with z | z
  · subst z
    have := h.hd
    rw [List.getElem?_eq_getElem hi] at this
    have := Option.some.inj this
    omega
  · have := pairwise_get h.lt h.hd (List.getElem?_eq_getElem hi) z
    omega
theorem mk_Ruler_ok {ms : List Int} {e : Int} (h : RulOk ⟨e, ms⟩) : mk_Ruler ms e = .ok ⟨e, ms⟩ := by
  apply Out.yes.eq
  unfold mk_Ruler
  have hlo := h.lo
  have hhi := h.hi
  have he0 := h.e0
  have he9 := h.e9
  dsimp only at hlo hhi he0 he9
  refine Out.yes_bind (R := fun _ => True) (Out.fold_yes (fun _ _ => True) _ _ trivial fun pre x post s hp _ => ?_) fun _ _ => ?_
  · obtain ⟨i, hi, h1, h2, _⟩ := penum_split hp
    have hlt := (List.getElem?_eq_some_iff.mp h2).1
    rcases Nat.eq_zero_or_pos i with z | z
    · subst z
      have hx0 : x.2 = 0 := by have := h.hd; dsimp only at this; rw [h2] at this; exact Option.some.inj this
      rw [if_pos (by rw [h1]; simp), Out.bind_ok]
      refine Out.yes_ifF ?_ (Out.yes_ok trivial)
      rw [h1, hx0]; rfl
    · rw [if_neg (by rw [h1]; simp; omega)]
      have hprev : ms[i - 1]? = some (ms[i - 1]'(by omega)) := List.getElem?_eq_getElem (by omega)
      rw [Out.bind_get (a := ms[i - 1]'(by omega)) (by rw [h1, show ((i : Nat) : Int) - 1 = ((i - 1 : Nat) : Int) by omega]; exact pix_nat hprev), Out.bind_ok]
      refine Out.yes_ifF ?_ (Out.yes_ok trivial)
      have hl := pairwise_get h.lt hprev h2 (by omega)
      have h3 := h.le x.2 (List.mem_of_getElem? h2)
      rw [if_neg (by rw [h1]; simp; omega), isnum_t (by omega) h3]
      simp; omega
  · refine Out.yes_ifF (by simp; omega) (Out.yes_ifF ?_ (Out.yes_ok rfl))
    rw [isnum_t he0 he9]; rfl
/-- all distances of two marks -/
def spreadL : List Int → List Int
  | [] => []
  | m :: ms => ms.map (fun x => x - m) ++ spreadL ms
theorem spreadL_len : ∀ ms : List Int, (spreadL ms).length ≤ ms.length * ms.length
  | [] => by simp [spreadL]
  | m :: ms => by
    have := spreadL_len ms
    unfold spreadL
    rw [List.length_append, List.length_map, List.length_cons]
    have e : (ms.length + 1) * (ms.length + 1) = ms.length * ms.length + 2 * ms.length + 1 := by
      rw [Nat.add_mul, Nat.mul_add]; omega
    omega
theorem mem_spreadL {ms : List Int} {d : Int} : d ∈ spreadL ms ↔ ∃ (i j : Nat) (x y : Int), i < j ∧ ms[i]? = some x ∧ ms[j]? = some y ∧ d = y - x := by
  induction ms with
  | nil => unfold spreadL; simp
  | cons m ms ih =>
    unfold spreadL
    rw [List.mem_append, List.mem_map, ih]
    constructor
    · rintro (⟨y, hy, rfl⟩ | ⟨i, j, x, y, h1, h2, h3, h4⟩)
      · obtain ⟨j, hj⟩ := List.getElem?_of_mem hy
        exact ⟨0, j + 1, m, y, by omega, by simp, by simpa using hj, rfl⟩
      · exact ⟨i + 1, j + 1, x, y, by omega, by simpa using h2, by simpa using h3, h4⟩
    · rintro ⟨i, j, x, y, h1, h2, h3, h4⟩
      cases j with
      | zero => omega
      | succ j =>
        rw [List.getElem?_cons_succ] at h3
        cases i with
        | zero =>
          rw [List.getElem?_cons_zero] at h2
          cases h2
          exact .inl ⟨y, List.mem_of_getElem? h3, h4.symm⟩
        | succ i =>
          rw [List.getElem?_cons_succ] at h2
          exact .inr ⟨i, j, x, y, by omega, h2, h3, h4⟩
theorem spread_ok {ms : List Int} (hl : ms.length ≤ 1000) : m_spread_of ms = .ok (isort (spreadL ms)) := by
  unfold m_spread_of
  rw [Out.bind_ok]
  have key : ∀ (xs pre : List Int) (s : List Int), ms = pre ++ xs → s.length + (spreadL xs).length ≤ 1000000 → Out.fold (σ := List Int) (fun s3 (x5 : (Int × Int)) =>
      (Out.guard ((s3).length + ((pcut ms (some (x5.1 + (1 : Int))) none).map (fun (x8 : Int) => x8 - x5.2)).length ≤ LIM)).bind fun _ =>
      (Out.ok (s3 ++ ((pcut ms (some (x5.1 + (1 : Int))) none).map (fun (x8 : Int) => x8 - x5.2)))).bind fun found11 =>
      Out.ok found11) (penumF pre.length xs) s = .ok (s ++ spreadL xs) := by
    intro xs
    induction xs with
    | nil => intro pre s _ _; unfold penumF spreadL; rw [Out.fold_nil, List.append_nil]
    | cons x xs ih =>
      intro pre s e hs
      unfold penumF
      rw [Out.fold_cons]
      dsimp only
      have hc : pcut ms (some ((pre.length : Int) + 1)) none = xs := by
        rw [show (pre.length : Int) + 1 = ((pre.length + 1 : Nat) : Int) by omega, pcut_from, e]
        rw [show pre ++ x :: xs = (pre ++ [x]) ++ xs by simp, List.drop_left' (by simp)]
      unfold spreadL at hs ⊢
      rw [List.length_append, List.length_map] at hs
      rw [hc, Out.bind_guard (by rw [List.length_map]; show _ ≤ 16777216; omega), Out.bind_ok, Out.bind_ok]
      have := ih (pre ++ [x]) (s ++ xs.map (fun y => y - x)) (by rw [e]; simp) (by rw [List.length_append, List.length_map]; omega)
      rw [show (pre ++ [x]).length = pre.length + 1 by simp] at this
      rw [this, List.append_assoc]
  have hq := spreadL_len ms
  have hb : ms.length * ms.length ≤ 1000 * 1000 := Nat.mul_le_mul hl hl
  have := key ms [] [] rfl (by rw [List.length_nil]; omega)
  rw [show penum ms = penumF ([] : List Int).length ms from rfl, this, List.nil_append, Out.bind_ok]
/-- all different distances -/
def spansL (ms : List Int) : List Int := isort ((dmk ((isort (spreadL ms)).map fun x => (x, true))).map (·.1))
theorem mem_spansL {ms : List Int} {d : Int} : d ∈ spansL ms ↔ d ∈ spreadL ms := by
  unfold spansL
  rw [mem_isort]
  show d ∈ keys (dmk _) ↔ _
  rw [mem_keys_dmk]
  unfold keys
  rw [List.map_map, show ((fun x : Int × Bool => x.1) ∘ fun x : Int => (x, true)) = id from rfl, List.map_id, mem_isort]
theorem spansL_lt (ms : List Int) : (spansL ms).Pairwise (· < ·) := isort_lt (dmk_nodup _)
theorem spansL_len (ms : List Int) : (spansL ms).length ≤ ms.length * ms.length := by
  refine Nat.le_trans ?_ (spreadL_len ms)
  unfold spansL
  rw [isort_length, List.length_map]
  refine Nat.le_trans (dmk_len _) ?_
  rw [List.length_map, isort_length]; exact Nat.le_refl _
theorem spans_ok {r : Rul} (hl : r.marks.length ≤ 1000) : m_Ruler_spans r = .ok (spansL r.marks) := by
  unfold m_Ruler_spans spansL; rw [spread_ok hl, Out.bind_ok]
/-- the spans of a good ruler -/
theorem RulOk.span {r : Rul} (h : RulOk r) {d : Int} (hd : d ∈ spansL r.marks) : 0 < d ∧ d ≤ 300 := by
  rw [mem_spansL, mem_spreadL] at hd
  obtain ⟨i, j, x, y, h1, h2, h3, rfl⟩ := hd
  have := pairwise_get h.lt h2 h3 h1
  have h4 := h.nn (List.mem_of_getElem? h2)
  have h5 := h.le y (List.mem_of_getElem? h3)
  omega
theorem RulOk.span_ne {r : Rul} (h : RulOk r) : ∃ d, d ∈ spansL r.marks := by
  have h2 := h.lo
  exact ⟨r.marks[1] - r.marks[0], by rw [mem_spansL, mem_spreadL]; exact ⟨0, 1, _, _, by omega, List.getElem?_eq_getElem (by omega), List.getElem?_eq_getElem (by omega), rfl⟩⟩
structure RakOk (r : Rak) : Prop where
  ru : ∀ p, p ∈ r.held → RulOk p.2
  nd : (keys r.held).Nodup
  ne : r.held ≠ []
  le : r.held.length ≤ 6
  so : (keys r.held).Pairwise fun a b => leS a b = true
def stepsU (held : List (S × Rul)) : List (S × Int) := held.flatMap fun p => (spansL p.2.marks).map (fun x => (p.1, 0 - x)) ++ (spansL p.2.marks).map (fun x => (p.1, x))
def stepsL (r : Rak) : List (S × Int) := psort (stepsU r.held)
theorem mem_stepsL {r : Rak} {st : S × Int} : st ∈ stepsL r ↔ ∃ p, p ∈ r.held ∧ st.1 = p.1 ∧ (st.2 ∈ spansL p.2.marks ∨ 0 - st.2 ∈ spansL p.2.marks) := by
  unfold stepsL
  rw [(psort_perm _).mem_iff]
  unfold stepsU
  rw [List.mem_flatMap]
  constructor
  · rintro ⟨p, hp, hs⟩
    rw [List.mem_append, List.mem_map, List.mem_map] at hs
    rcases hs with ⟨x, hx, rfl⟩ | ⟨x, hx, rfl⟩
    · exact ⟨p, hp, rfl, .inr (by simpa using hx)⟩
    · exact ⟨p, hp, rfl, .inl hx⟩
  · rintro ⟨p, hp, h1, h2⟩
    refine ⟨p, hp, ?_⟩
    rw [List.mem_append, List.mem_map, List.mem_map]
    rcases h2 with h2 | h2
    · exact .inr ⟨st.2, h2, by rw [← h1]⟩
    · exact .inl ⟨0 - st.2, h2, by rw [← h1]; simp⟩
/-- a rack out of a dict of rulers -/
theorem mk_Rack_ok {rs : List (S × Rul)} (hn : ∀ p, p ∈ rs → m_is_name p.1 = .ok true) (nd : (keys rs).Nodup) (ne : rs ≠ []) (le : rs.length ≤ 6) (ru : ∀ p, p ∈ rs → RulOk p.2) :
    (mk_Rack rs).yes fun r => RakOk r ∧ keys r.held = ssort (keys rs) ∧ (∀ p, p ∈ r.held ↔ p ∈ rs) ∧ r.held.length = rs.length := by
  unfold mk_Rack
  refine Out.yes_bind (R := fun _ => True) (Out.fold_yes (fun _ _ => True) _ _ trivial fun pre x post s hp _ => ?_) fun _ _ => ?_
  · obtain ⟨i, hi, h1, h2, _⟩ := penum_split hp
    have hlt := (List.getElem?_eq_some_iff.mp h2).1
    rw [List.length_map] at hlt
    have hx := List.mem_of_getElem? h2
    rw [List.mem_map] at hx
    obtain ⟨p, hp1, hp2⟩ := hx
    rw [if_neg (by rw [h1]; simp; omega), ← hp2, hn p hp1, Out.bind_ok, Out.bind_ok]
    exact Out.yes_ifF rfl (Out.yes_ok trivial)
  · refine Out.yes_ifF (by cases rs with | nil => exact absurd rfl ne | cons a b => rfl) (Out.yes_guard (by omega) ?_)
    have hperm : (ssort (keys rs)).Perm (keys rs) := ssort_perm _
    let val : S → Rul := fun k => (dget rs k).getD ⟨0, []⟩
    rw [Out.compS_unit (o := fun k => some (k, val k)) _ _ fun k hk => by
      obtain ⟨v, hv⟩ := dget_some (hperm.mem_iff.mp hk)
      rw [Out.bind_get hv]
      show _ = Out.ok (some (k, (dget rs k).getD ⟨0, []⟩), ())
      rw [hv]; rfl]
    rw [Out.bind_ok, List.nil_append]
    have hfm : (ssort (keys rs)).filterMap (fun k => some (k, val k)) = (ssort (keys rs)).map fun k => (k, val k) := by rw [← List.filterMap_eq_map]; rfl
    have hk : keys ((ssort (keys rs)).map fun k => (k, val k)) = ssort (keys rs) := by
      unfold keys; rw [List.map_map]; exact List.map_id _
    have hnd : (keys ((ssort (keys rs)).map fun k => (k, val k))).Nodup := by rw [hk]; exact hperm.nodup_iff.mpr nd
    dsimp only
    rw [hfm, dmk_of_nodup hnd]
    have hmem : ∀ p, p ∈ ((ssort (keys rs)).map fun k => (k, val k)) ↔ p ∈ rs := by
      intro p
      rw [List.mem_map]
      constructor
      · rintro ⟨k, hk1, rfl⟩
        obtain ⟨v, hv⟩ := dget_some (hperm.mem_iff.mp hk1)
        show (k, (dget rs k).getD ⟨0, []⟩) ∈ rs
        rw [hv]; exact dget_mem hv
      · intro hp
        refine ⟨p.1, hperm.mem_iff.mpr (List.mem_map.mpr ⟨p, hp, rfl⟩), ?_⟩
        show (p.1, (dget rs p.1).getD ⟨0, []⟩) = p
        rw [dget_of_mem nd (show (p.1, p.2) ∈ rs from hp)]; rfl
    have hlen : ((ssort (keys rs)).map fun k => (k, val k)).length = rs.length := by
      rw [List.length_map, hperm.length_eq]; unfold keys; rw [List.length_map]
    refine Out.yes_ok ⟨⟨fun p hp => ru p ((hmem p).mp hp), hnd, ?_, by rw [hlen]; exact le, by dsimp only; rw [hk]; exact ssort_sorted _⟩, hk, hmem, hlen⟩
    intro z
    dsimp only at z
    rw [z] at hlen
    cases rs with
    | nil => exact ne rfl
    | cons a b => simp at hlen
theorem item_ok {r : Rak} {n : S} {u : Rul} (h : dget r.held n = some u) : m_Rack___getitem r n = .ok u := by
  unfold m_Rack___getitem
  have : n ∈ keys r.held := by apply Classical.byContradiction; intro z; rw [dget_none.mpr z] at h; cases h
  rw [dhas_iff.mpr this, if_neg (by simp), Out.bind_get h]
theorem ixN_pos {n : Nat} {i : Int} (h0 : 0 ≤ i) (h1 : i < (n : Int)) : L2.ixN n i = some i.toNat := by
  unfold L2.ixN
  rw [if_pos h0, if_pos (by omega)]
theorem next_yes {m : Int} (h0 : 0 < m) (h1 : m < 2 ^ 200) (bx : Bh) : (m_law_next m bx).yes fun r => 0 ≤ r.1 ∧ r.1 < m := by
  obtain ⟨⟨ns, st, ix⟩, hl⟩ := bx
  unfold m_law_next
  dsimp only at hl ⊢
  refine Out.yes_guard ⟨h0, h1⟩ ?_
  have hr : ∀ a : Int, 0 ≤ a % m ∧ a % m < m := fun a => ⟨Int.emod_nonneg _ (by omega), Int.emod_lt_of_pos _ h0⟩
  by_cases hn : ns.length ≤ 1
  · rw [if_neg (by omega)]
    obtain ⟨x, hx, hm⟩ := pix_some (xs := ns ++ [0]) (i := ix % 1) (by omega) (by rw [List.length_append, List.length_singleton]; omega)
    refine Out.yes_get hx ?_
    by_cases hc : 1000000000000000000 ≤ x
    · rw [if_pos hc]
      have h1 : ns.length = 1 := by
        rcases Nat.eq_zero_or_pos ns.length with z | z
        · have : ns = [] := List.eq_nil_of_length_eq_zero z
          subst this
          simp at hm; omega
        · omega
      rw [h1]
      refine Out.yes_get (ixN_pos (n := 1) (by omega) (by omega)) (Out.yes_guard (by omega) (Out.yes_ok (hr _)))
    · rw [if_neg hc]; exact Out.yes_ok (hr _)
  · have hp : (0 : Int) < ns.length := by omega
    rw [if_pos (by omega)]
    have i0 := Int.emod_nonneg ix (show (ns.length : Int) ≠ 0 by omega)
    have i1 := Int.emod_lt_of_pos ix hp
    obtain ⟨x, hx, hm⟩ := pix_some (xs := ns ++ [0]) i0 (by rw [List.length_append]; simp; omega)
    refine Out.yes_get hx ?_
    by_cases hc : 1000000000000000000 ≤ x
    · rw [if_pos hc]
      exact Out.yes_get (ixN_pos i0 i1) (Out.yes_guard hp (Out.yes_ok (hr _)))
    · rw [if_neg hc]; exact Out.yes_ok (hr _)
/-- marks that grow -/
structure Grown (n : Int) (wide : Int) (ms : List Int) : Prop where
  lt : ms.Pairwise (· < ·)
  hd : ms[0]? = some 0
  len : (ms.length : Int) = n + 1
  le : ∀ m, m ∈ ms → m ≤ n * wide
theorem grow_yes {n wide : Int} (hn : 0 ≤ n) (hn2 : n ≤ 1000) (h1 : 1 ≤ wide) (h2 : wide < 2 ^ 200) (bx : Bh) : (Out.fold (σ := (List Int) × Bh) (fun s3 (x5 : Int) =>
    (Out.get (pix s3.1 (-(1 : Int)))).bind fun x9 =>
    (m_law_next wide s3.2).bind fun r10 =>
    (Out.guard ((s3.1).length < LIM)).bind fun _ =>
    (Out.ok (s3.1 ++ [(x9 + (1 : Int)) + r10.1])).bind fun found12 =>
    Out.ok (found12, r10.2)) (rgI 0 n) ([(0 : Int)], bx)).yes fun s => Grown n wide s.1 := by
  refine Out.yes.mono (Out.fold_yes (fun (pre : List Int) (s : List Int × Bh) => ∃ z, s.1.getLast? = some z ∧ z ≤ (pre.length : Int) * wide ∧ s.1.Pairwise (· < ·) ∧ s.1[0]? = some 0 ∧ s.1.length = pre.length + 1 ∧ ∀ m, m ∈ s.1 → m ≤ z) _ _ ⟨0, rfl, by simp, by simp, rfl, rfl, fun m hm => by simp at hm; omega⟩ fun pre x post s hp hI => ?_) fun s hI => ?_
  · obtain ⟨z, z1, z2, z3, z4, z5, z6⟩ := hI
    have hpl : pre.length < 1000 := by
      have := congrArg List.length hp
      rw [rgI_length, List.length_append, List.length_cons] at this
      omega
    refine Out.yes_get (pix_last z1) (Out.yes_bind (next_yes (by omega) h2 _) fun r hr => Out.yes_guard (by show _ < 16777216; omega) (Out.yes_let (Out.yes_ok ⟨z + 1 + r.1, by simp, ?_, ?_, ?_, by simp [z5], ?_⟩)))
    · rw [List.length_append, List.length_singleton, show ((pre.length + 1 : Nat) : Int) = (pre.length : Int) + 1 by omega, Int.add_mul]; omega
    · rw [List.pairwise_append]
      refine ⟨z3, by simp, fun a ha b hb => ?_⟩
      rw [List.mem_singleton] at hb
      have := z6 a ha
      omega
    · rw [List.getElem?_append_left (by omega)]; exact z4
    · intro m hm
      rcases List.mem_append.mp hm with hm | hm
      · have := z6 m hm; omega
      · rw [List.mem_singleton] at hm; omega
  · obtain ⟨z, z1, z2, z3, z4, z5, z6⟩ := hI
    have hl : ((rgI 0 n).length : Int) = n := by rw [rgI_length]; omega
    exact ⟨z3, z4, by rw [z5]; omega, fun m hm => by have := z6 m hm; rw [hl] at z2; omega⟩
theorem Grown.ok {n wide e : Int} {ms : List Int} (h : Grown n wide ms) (h1 : 1 ≤ n) (h2 : n ≤ 11) (h3 : n * wide ≤ 300) (e0 : 0 ≤ e) (e9 : e ≤ 9) : RulOk ⟨e, ms⟩ :=
  ⟨h.lt, h.hd, by have := h.len; show 2 ≤ ms.length; omega, by have := h.len; show ms.length ≤ 12; omega, fun m hm => by have := h.le m hm; omega, e0, e9⟩
theorem nodup_of_keys {ν : Type} {l : List (S × ν)} (h : (keys l).Nodup) : l.Nodup := by
  unfold keys at h
  exact List.Pairwise.imp (fun {a b} hab e => hab (by rw [e])) (List.pairwise_map.mp h)
def rulOf (v : List Int × Int) : Rul := ⟨v.2, v.1⟩
structure DrOk (d : List (S × (List Int × Int))) : Prop where
  nd : (keys d).Nodup
  ne : d ≠ []
  le : d.length ≤ 6
  nm : ∀ p, p ∈ d → m_is_name p.1 = .ok true
  ru : ∀ p, p ∈ d → RulOk (rulOf p.2)
def heldOf (d : List (S × (List Int × Int))) : List (S × Rul) := d.map fun q => (q.1, rulOf q.2)
theorem keys_heldOf (d : List (S × (List Int × Int))) : keys (heldOf d) = keys d := by unfold keys heldOf; rw [List.map_map]; rfl
theorem rack2_yes {d : List (S × (List Int × Int))} (h : DrOk d) : (m_law_rack d).yes fun r => RakOk r ∧ r.held.Perm (heldOf d) := by
  unfold m_law_rack
  rw [Out.compS_unit (o := fun x => (dget d x).map fun v => (x, rulOf v)) _ _ fun x hx => by
    have hx' : x ∈ keys d := hx
    obtain ⟨v, hv⟩ := dget_some hx'
    have hm := dget_mem hv
    rw [Out.bind_get hv, Out.bind_get hv, mk_Ruler_ok (h.ru _ hm), Out.nox_ok, Out.bind_ok, hv]
    rfl]
  rw [Out.bind_ok, List.nil_append]
  have e : (d.map (·.1)).filterMap (fun x => (dget d x).map fun v => (x, rulOf v)) = heldOf d := by
    rw [List.filterMap_map]
    unfold heldOf
    rw [← List.filterMap_eq_map]
    have : ∀ l : List (S × (List Int × Int)), (∀ q, q ∈ l → q ∈ d) → l.filterMap ((fun x => (dget d x).map fun v => (x, rulOf v)) ∘ fun x => x.1) = l.filterMap fun q => some (q.1, rulOf q.2) := by
      intro l
      induction l with
      | nil => intro _; rfl
      | cons q l ih =>
        intro hl
        have e1 : ((fun x => (dget d x).map fun v => (x, rulOf v)) ∘ fun x : S × (List Int × Int) => x.1) q = some (q.1, rulOf q.2) := by
          show (dget d q.1).map _ = _
          rw [dget_of_mem h.nd (show (q.1, q.2) ∈ d from hl q List.mem_cons_self)]
          rfl
        rw [List.filterMap_cons_some e1, ih fun q hq => hl q (List.mem_cons_of_mem _ hq)]
        rfl
    exact this d fun q hq => hq
  dsimp only
  rw [e]
  have hnd : (keys (heldOf d)).Nodup := by rw [keys_heldOf]; exact h.nd
  rw [dmk_of_nodup hnd]
  have hmem : ∀ p, p ∈ heldOf d → ∃ q, q ∈ d ∧ p = (q.1, rulOf q.2) := fun p hp => by
    unfold heldOf at hp
    obtain ⟨q, h1, h2⟩ := List.mem_map.mp hp
    exact ⟨q, h1, h2.symm⟩
  refine Out.yes_bind (mk_Rack_ok (fun p hp => by obtain ⟨q, h1, rfl⟩ := hmem p hp; exact h.nm q h1) hnd (by unfold heldOf; intro z; exact h.ne (List.map_eq_nil_iff.mp z)) (by unfold heldOf; rw [List.length_map]; exact h.le) fun p hp => by obtain ⟨q, h1, rfl⟩ := hmem p hp; exact h.ru q h1) fun r ⟨k1, k2, k3, k4⟩ => Out.yes_ok ⟨k1, ?_⟩
  exact (List.perm_ext_iff_of_nodup (nodup_of_keys k1.nd) (nodup_of_keys hnd)).mpr k3
theorem law_spans2 {ms : List Int} (hl : ms.length ≤ 30) : m_law_spans ms = .ok (spansL ms) := by
  unfold m_law_spans
  rw [Out.bind_ok, Out.bind_guard (by constructor <;> omega)]
  have key : ∀ (xs pre : List Int) (s : List Int), ms = pre ++ xs → s.length + (spreadL xs).length ≤ 1000000 → Out.fold (σ := List Int) (fun s3 (x5 : Int) =>
      (Out.guard (RG (x5 + (1 : Int)))).bind fun _ =>
      (Out.guard (RG ((ms).length : Int))).bind fun _ =>
      (Out.guard ((rgI (x5 + (1 : Int)) ((ms).length : Int)).length ≤ LIM)).bind fun _ =>
      (Out.compS (fun (s11 : Unit) (x7 : Int) =>
      (Out.get (pix ms x7)).bind fun x13 =>
      (Out.get (pix ms x5)).bind fun x14 =>
      Out.ok (some (x13 - x14), ())) (rgI (x5 + (1 : Int)) ((ms).length : Int)) [] ()).bind fun l12 =>
      (Out.guard ((s3).length + (l12.1).length ≤ LIM)).bind fun _ =>
      (Out.ok (s3 ++ l12.1)).bind fun found16 =>
      Out.ok found16) (rgI (pre.length : Int) (ms.length : Int)) s = .ok (s ++ spreadL xs) := by
    intro xs
    induction xs with
    | nil =>
      intro pre s e _
      rw [e, List.append_nil, rgI_nil (Int.le_refl _), Out.fold_nil]; unfold spreadL; rw [List.append_nil]
    | cons x xs ih =>
      intro pre s e hs
      have hlen : ms.length = pre.length + (xs.length + 1) := by rw [e, List.length_append, List.length_cons]
      rw [rgI_cons (by omega), Out.fold_cons]
      have hx : pix ms (pre.length : Int) = some x := pix_nat (by rw [e]; simp)
      rw [Out.bind_guard (by constructor <;> omega), Out.bind_guard (by constructor <;> omega), Out.bind_guard (by rw [rgI_length]; show _ ≤ 16777216; omega)]
      have hrest : ∀ (ys qre : List Int), ms = qre ++ ys → (rgI (qre.length : Int) (ms.length : Int)).filterMap (fun i => (pix ms i).map fun y => y - x) = ys.map fun y => y - x := by
        intro ys
        induction ys with
        | nil => intro qre e2; rw [e2, List.append_nil, rgI_nil (Int.le_refl _)]; rfl
        | cons y ys ih2 =>
          intro qre e2
          have hlen2 : ms.length = qre.length + (ys.length + 1) := by rw [e2, List.length_append, List.length_cons]
          have hy : pix ms (qre.length : Int) = some y := pix_nat (by rw [e2]; simp)
          rw [rgI_cons (by omega), List.filterMap_cons, hy]
          have := ih2 (qre ++ [y]) (by rw [e2]; simp)
          rw [show ((qre ++ [y]).length : Int) = (qre.length : Int) + 1 by simp] at this
          show (y - x) :: _ = _
          rw [this]; rfl
      rw [Out.compS_unit (o := fun i => (pix ms i).map fun y => y - x) _ _ fun i hi => by
        rw [mem_rgI] at hi
        obtain ⟨y, hy, _⟩ := pix_some (xs := ms) (i := i) (by omega) hi.2
        rw [Out.bind_get hy, Out.bind_get hx, hy]; rfl]
      have h3 := hrest xs (pre ++ [x]) (by rw [e]; simp)
      rw [show ((pre ++ [x]).length : Int) = (pre.length : Int) + 1 by simp] at h3
      rw [Out.bind_ok, List.nil_append, h3]
      unfold spreadL at hs ⊢
      rw [List.length_append, List.length_map] at hs
      rw [Out.bind_guard (by rw [List.length_map]; show _ ≤ 16777216; omega), Out.bind_ok, Out.bind_ok]
      have := ih (pre ++ [x]) (s ++ xs.map (fun y => y - x)) (by rw [e]; simp) (by rw [List.length_append, List.length_map]; omega)
      rw [show ((pre ++ [x]).length : Int) = (pre.length : Int) + 1 by simp] at this
      rw [this, List.append_assoc]
  have hq := spreadL_len ms
  have hb : ms.length * ms.length ≤ 30 * 30 := Nat.mul_le_mul hl hl
  have := key ms [] [] rfl (by rw [List.length_nil]; omega)
  rw [show (0 : Int) = (([] : List Int).length : Int) from rfl, this, List.nil_append, Out.bind_ok, Out.bind_guard (by omega)]
  congr 1
  refine sorted_ext (uniq_lt _) (spansL_lt ms) fun k => ?_
  rw [mem_uniq, mem_spansL]
theorem stepsU_perm {a b : List (S × Rul)} (h : a.Perm b) : (stepsU a).Perm (stepsU b) := by unfold stepsU; exact h.flatMap_right _
theorem law_steps2 {d : List (S × (List Int × Int))} {r : Rak} (h : DrOk d) (hp : r.held.Perm (heldOf d)) : m_law_steps d = .ok (stepsL r) := by
  unfold m_law_steps
  rw [Out.bind_ok]
  have inner : ∀ (n : S) (sp : List Int) (s : List (S × Int)), s.length + 2 * sp.length ≤ 100000 → Out.fold (σ := List (S × Int)) (fun s8 (x10 : Int) =>
      (Out.guard ((s8).length + ([(n, x10), (n, (0 : Int) - x10)]).length ≤ LIM)).bind fun _ =>
      (Out.ok (s8 ++ [(n, x10), (n, (0 : Int) - x10)])).bind fun found17 =>
      Out.ok found17) sp s = .ok (s ++ sp.flatMap fun x => [(n, x), (n, 0 - x)]) := by
    intro n sp
    induction sp with
    | nil => intro s _; rw [Out.fold_nil]; simp
    | cons x sp ih =>
      intro s hl
      rw [List.length_cons] at hl
      rw [Out.fold_cons, Out.bind_guard (by show _ ≤ 16777216; simp; omega), Out.bind_ok, Out.bind_ok, ih _ (by rw [List.length_append]; simp; omega), List.flatMap_cons, List.append_assoc]
  have key : ∀ (hs : List (S × (List Int × Int))) (s : List (S × Int)), (∀ p, p ∈ hs → p ∈ d) → s.length + 300 * hs.length ≤ 10000 → ∃ out, Out.fold (σ := List (S × Int)) (fun s3 (x5 : S) =>
      (Out.get (dget d x5)).bind fun x10 =>
      (m_law_spans x10.1).bind fun r11 =>
      (Out.fold (σ := List ((S × Int))) (fun s8 (x10 : Int) =>
      (Out.guard ((s8).length + ([(x5, x10), (x5, (0 : Int) - x10)]).length ≤ LIM)).bind fun _ =>
      (Out.ok (s8 ++ [(x5, x10), (x5, (0 : Int) - x10)])).bind fun found17 =>
      Out.ok found17) r11 s3).bind fun s9 =>
      Out.ok s9) (keys hs) s = .ok (s ++ out) ∧ out.Perm (stepsU (heldOf hs)) := by
    intro hs
    induction hs with
    | nil => intro s _ _; exact ⟨[], by rw [show keys ([] : List (S × (List Int × Int))) = [] from rfl, Out.fold_nil, List.append_nil], by unfold stepsU heldOf; simp⟩
    | cons p hs ih =>
      intro s hm hl
      have hp := hm p List.mem_cons_self
      have hr := h.ru p hp
      have h12 : p.2.1.length ≤ 12 := hr.hi
      have hsl := spansL_len p.2.1
      have h144 : p.2.1.length * p.2.1.length ≤ 12 * 12 := Nat.mul_le_mul h12 h12
      rw [List.length_cons] at hl
      have hfl : ∀ sp : List Int, (sp.flatMap fun x => [(p.1, x), (p.1, (0 : Int) - x)]).length = 2 * sp.length := by
        intro sp
        induction sp with
        | nil => rfl
        | cons x sp ih => rw [List.flatMap_cons, List.length_append, ih, List.length_cons]; simp; omega
      obtain ⟨out, o1, o2⟩ := ih (s ++ (spansL p.2.1).flatMap fun x => [(p.1, x), (p.1, 0 - x)]) (fun q hq => hm q (List.mem_cons_of_mem _ hq)) (by rw [List.length_append, hfl]; omega)
      refine ⟨((spansL p.2.1).flatMap fun x => [(p.1, x), (p.1, 0 - x)]) ++ out, ?_, ?_⟩
      · show Out.fold _ (p.1 :: keys hs) s = _
        rw [Out.fold_cons, Out.bind_get (dget_of_mem h.nd (show (p.1, p.2) ∈ d from hp))]
        rw [law_spans2 (by omega), Out.bind_ok]
        rw [inner p.1 (spansL p.2.1) s (by omega), Out.bind_ok, Out.bind_ok, o1, List.append_assoc]
      · unfold stepsU heldOf at o2 ⊢
        rw [List.map_cons, List.flatMap_cons]
        refine List.Perm.append ?_ o2
        have : ∀ sp : List Int, (sp.flatMap fun x => [(p.1, x), (p.1, (0 : Int) - x)]).Perm (sp.map (fun x => (p.1, (0 : Int) - x)) ++ sp.map (fun x => (p.1, x))) := by
          intro sp
          induction sp with
          | nil => exact List.Perm.refl _
          | cons x sp ih =>
            rw [List.flatMap_cons, List.map_cons, List.map_cons]
            refine (List.Perm.append_left _ ih).trans ?_
            show ((p.1, x) :: (p.1, (0 : Int) - x) :: _).Perm _
            refine (List.Perm.swap _ _ _).trans ?_
            rw [List.cons_append]
            refine List.Perm.cons _ ?_
            have e := (List.perm_middle (a := (p.1, x)) (l₁ := sp.map fun x => (p.1, (0 : Int) - x)) (l₂ := sp.map fun x => (p.1, x))).symm
            exact e
        exact this _
  have hle := h.le
  obtain ⟨out, o1, o2⟩ := key d [] (fun p hp => hp) (by rw [List.length_nil]; omega)
  rw [show d.map (·.1) = keys d from rfl, o1, List.nil_append, Out.bind_ok]
  congr 1
  unfold stepsL
  exact psort_of ((psort_perm out).trans (o2.trans (stepsU_perm hp).symm)) (psort_sorted out)
theorem marks2_yes {most wide : Int} (h1 : 2 ≤ most) (h2 : most ≤ 12) (h3 : 1 ≤ wide) (h4 : wide ≤ 300) (bx : Bh) : (m_law_marks most wide bx).yes fun r => ∃ n, 1 ≤ n ∧ n ≤ most - 1 ∧ Grown n wide r.1 := by
  unfold m_law_marks
  refine Out.yes_let (Out.yes_bind (next_yes (by omega) (by omega) _) fun r7 h7 => Out.yes_guard (by constructor <;> omega) (Out.yes_bind (grow_yes (n := 1 + r7.1) (by omega) (by omega) h3 (by omega) _) fun s hs => Out.yes_ok ⟨1 + r7.1, by omega, by omega, hs⟩))
def names6 : List S := [z_ash, z_bay, z_elm, z_fir, z_oak, z_yew]
theorem names6_ok : ∀ n, n ∈ names6 → m_is_name n = .ok true := by
  intro n hn
  unfold names6 at hn
  simp only [List.mem_cons, List.not_mem_nil, or_false] at hn
  rcases hn with rfl | rfl | rfl | rfl | rfl | rfl <;> with_unfolding_all rfl
theorem names6_nd : names6.Nodup := by decide +kernel
theorem names6_lt : names6.Pairwise (fun a b => ltC eZ a b = true) := by decide +kernel
theorem drawn2P_yes {most wide : Int} (h1 : 1 ≤ most) (h2 : most ≤ 6) (h3 : 1 ≤ wide) (h4 : wide ≤ 100) (bx : Bh) : (m_law_drawn most wide bx).yes fun r => (DrOk r.1 ∧ (keys r.1).Pairwise (fun a b => ltC eZ a b = true) ∧ ∀ n, n ∈ keys r.1 → n ∈ names6) ∧ ∃ k : Nat, 1 ≤ k ∧ (k : Int) ≤ most ∧ keys r.1 = names6.take k := by
  unfold m_law_drawn
  refine Out.yes_let (Out.yes_bind (next_yes (by omega) (by omega) _) fun r7 h7 => ?_)
  obtain ⟨k, hk⟩ := Int.eq_ofNat_of_zero_le (show 0 ≤ 1 + r7.1 by omega)
  rw [hk]
  have hcut : pcut [z_ash, z_bay, z_elm, z_fir, z_oak, z_yew] none (some (k : Int)) = names6.take k := pcut_to _ _
  have hkl : 1 ≤ k ∧ k ≤ 6 := by omega
  rw [hcut]
  refine Out.yes_bind (Out.fold_yes (fun (pre : List S) (s : List (S × (List Int × Int)) × Bh) => keys s.1 = pre ∧ ∀ p, p ∈ s.1 → RulOk (rulOf p.2)) _ _ ⟨rfl, fun p hp => by cases hp⟩ fun pre x post s hp hI => ?_) fun s hs => ?_
  · obtain ⟨i1, i2⟩ := hI
    refine Out.yes_bind (marks2_yes (by omega) (by omega) h3 (by omega) _) fun r9 ⟨n, n1, n2, hg⟩ => ?_
    refine Out.yes_bind (next_yes (by omega) (by omega) _) fun r10 h10 => ?_
    obtain ⟨er, he, hem⟩ := pix_some (xs := [(0 : Int), 0, 1, 2]) h10.1 (by simp; omega)
    have her : 0 ≤ er ∧ er ≤ 9 := by simp at hem; omega
    have hnd : (pre ++ x :: post).Nodup := by rw [← hp]; exact (List.take_sublist _ _).nodup names6_nd
    have hx : x ∉ pre := fun z => by
      rw [List.nodup_append] at hnd
      exact hnd.2.2 x z x List.mem_cons_self rfl
    have hlen : s.1.length < 16777216 := by
      have := congrArg List.length i1
      unfold keys at this
      rw [List.length_map] at this
      have h6 := congrArg List.length hp
      rw [List.length_take, List.length_append] at h6
      have : names6.length = 6 := rfl
      omega
    refine Out.yes_get he (Out.yes_guard hlen (Out.yes_let (Out.yes_ok ⟨?_, fun p hp => ?_⟩)))
    · rw [keys_dput, if_neg (by rw [i1]; exact hx), i1]
    · have hg2 := dget_of_mem (dput_nodup (k := x) (v := (r9.1, er)) (by rw [i1]; rw [List.nodup_append] at hnd; exact hnd.1)) (show (p.1, p.2) ∈ dput s.1 x (r9.1, er) from hp)
      rw [dget_dput] at hg2
      by_cases e : p.1 = x
      · rw [if_pos e] at hg2
        rw [← Option.some.inj hg2]
        have h5 : n * wide ≤ 3 * 100 := Int.mul_le_mul (by omega) h4 (by omega) (by omega)
        exact hg.ok n1 (by omega) (by omega) her.1 her.2
      · rw [if_neg e] at hg2
        exact i2 p (dget_mem hg2)
  · obtain ⟨i1, i2⟩ := hs
    have hl : s.1.length = k := by
      have := congrArg List.length i1
      unfold keys at this
      rw [List.length_map, List.length_take] at this
      have h6 : names6.length = 6 := rfl
      omega
    exact Out.yes_ok ⟨⟨⟨by rw [i1]; exact (List.take_sublist _ _).nodup names6_nd, (fun z => by dsimp only at z; rw [z] at hl; simp at hl; omega), by dsimp only; omega, (fun p hp => names6_ok _ (by have : p.1 ∈ keys s.1 := List.mem_map.mpr ⟨p, hp, rfl⟩; rw [i1] at this; exact List.mem_of_mem_take this)), i2⟩, by rw [i1]; exact List.Pairwise.sublist (List.take_sublist _ _) names6_lt, fun n hn => by rw [i1] at hn; exact List.mem_of_mem_take hn⟩, k, hkl.1, by omega, i1⟩
theorem drawn2K_yes {most wide : Int} (h1 : 1 ≤ most) (h2 : most ≤ 6) (h3 : 1 ≤ wide) (h4 : wide ≤ 100) (bx : Bh) : (m_law_drawn most wide bx).yes fun r => DrOk r.1 ∧ (keys r.1).Pairwise (fun a b => ltC eZ a b = true) ∧ ∀ n, n ∈ keys r.1 → n ∈ names6 := (drawn2P_yes h1 h2 h3 h4 bx).mono fun _ h => h.1
theorem valid_ok {e : Int} {ps : List Int} (h1 : 1 ≤ e) (h2 : e ≤ 200) (h : ∀ p, p ∈ ps → 0 ≤ p ∧ p ≤ e) : m_validate_places e ps = .ok () := by
  apply Out.yes.eq
  unfold m_validate_places
  refine Out.yes_ifF (by rw [isnum_t h1 h2]; rfl) ?_
  refine Out.yes_bind (R := fun _ => True) (Out.fold_yes (fun _ _ => True) _ _ trivial fun pre x post s hp _ => ?_) fun _ _ => Out.yes_ok rfl
  have hx := h x (by rw [hp]; simp)
  exact Out.yes_ifF (by rw [isnum_t hx.1 hx.2]; rfl) (Out.yes_ok trivial)
theorem RakOk.step {r : Rak} (h : RakOk r) {st : S × Int} (hs : st ∈ stepsL r) : st.2 ≠ 0 ∧ -300 ≤ st.2 ∧ st.2 ≤ 300 := by
  rw [mem_stepsL] at hs
  obtain ⟨p, h1, h2, h3 | h3⟩ := hs
  · have := (h.ru p h1).span h3; omega
  · have := (h.ru p h1).span h3; omega
theorem RakOk.steps_ne {r : Rak} (h : RakOk r) : stepsL r ≠ [] := by
  have := h.ne
  cases e : r.held with
  | nil => exact absurd e this
  | cons p hs =>
    obtain ⟨d, hd⟩ := (h.ru p (by rw [e]; simp)).span_ne
    intro z
    have : (p.1, d) ∈ stepsL r := mem_stepsL.mpr ⟨p, by rw [e]; simp, rfl, .inl hd⟩
    rw [z] at this; cases this
theorem RakOk.steps_few {r : Rak} (hR : RakOk r) : (stepsL r).length < 1073741824 := by
  unfold stepsL
  rw [(psort_perm _).length_eq]
  have : ∀ hs : List (S × Rul), (∀ p, p ∈ hs → RulOk p.2) → (stepsU hs).length ≤ 300 * hs.length := by
    intro hs
    induction hs with
    | nil => intro _; simp [stepsU]
    | cons p hs ih =>
      intro h
      have := ih fun q hq => h q (List.mem_cons_of_mem _ hq)
      unfold stepsU at this ⊢
      rw [List.flatMap_cons, List.length_append, List.length_append, List.length_map, List.length_map, List.length_cons]
      have h12 := (h p List.mem_cons_self).hi
      have hs2 := spansL_len p.2.marks
      have : p.2.marks.length * p.2.marks.length ≤ 12 * 12 := Nat.mul_le_mul h12 h12
      omega
  have h1 := this r.held hR.ru
  have := hR.le
  omega
def nbrR (r : Rak) (m : Int) (p : Int) : List Int := (stepsL r).map fun st => (p + st.2) % m
def nxR (m : Int) (p : Int) (st : S × Int) : Int := (p + st.2) % m
/-- the fewest times t with t steps = d on a ring -/
def IsTimes (m s d t : Int) : Prop := 0 ≤ t ∧ t < m / ((Nat.gcd m.toNat s.toNat : Nat) : Int) ∧ m ∣ t * s - d
theorem IsTimes.uniq {m s d t u : Int} (hm : 0 < m) (hs : 0 ≤ s) (h : IsTimes m s d t) (k : IsTimes m s d u) : t = u := by
  have hcop := Nat.coprime_div_gcd_div_gcd (m := m.toNat) (n := s.toNat) (Nat.gcd_pos_of_pos_left _ (by omega))
  have g0 : 0 < Nat.gcd m.toNat s.toNat := Nat.gcd_pos_of_pos_left _ (by omega)
  have gm := Nat.gcd_dvd_left m.toNat s.toNat
  have gs := Nat.gcd_dvd_right m.toNat s.toNat
  have e1 : m / ((Nat.gcd m.toNat s.toNat : Nat) : Int) = ((m.toNat / Nat.gcd m.toNat s.toNat : Nat) : Int) := by
    rw [Int.natCast_ediv, Int.toNat_of_nonneg (by omega)]
  have e2 : s / ((Nat.gcd m.toNat s.toNat : Nat) : Int) = ((s.toNat / Nat.gcd m.toNat s.toNat : Nat) : Int) := by
    rw [Int.natCast_ediv, Int.toNat_of_nonneg hs]
  obtain ⟨x, y, hxy⟩ := bezout (m.toNat / Nat.gcd m.toNat s.toNat) (s.toNat / Nat.gcd m.toNat s.toNat)
  rw [show Nat.gcd (m.toNat / Nat.gcd m.toNat s.toNat) (s.toNat / Nat.gcd m.toNat s.toNat) = 1 from hcop] at hxy
  refine times_uniq (s := s) (g := ((Nat.gcd m.toNat s.toNat : Nat) : Int)) (size := m / ((Nat.gcd m.toNat s.toNat : Nat) : Int)) hm ?_ ?_ ⟨y, -x, ?_⟩ (by omega) h.1 h.2.1 k.1 k.2.1 ?_
  · rw [Int.mul_ediv_cancel']
    have := Int.natCast_dvd_natCast.mpr gm; rwa [Int.toNat_of_nonneg (by omega)] at this
  · have := Int.natCast_dvd_natCast.mpr gs; rwa [Int.toNat_of_nonneg hs] at this
  · rw [e1, e2, Int.mul_neg]
    have : ((1 : Nat) : Int) = 1 := rfl
    omega
  · have := Int.dvd_sub h.2.2 k.2.2
    rwa [show t * s - d - (u * s - d) = t * s - u * s by omega] at this
def TimesIs (m s d : Int) (o : Option Int) : Prop := match o with
  | none => ∀ t, ¬ m ∣ t * s - d
  | some t => IsTimes m s d t
theorem TimesIs.uniq {m s d : Int} (hm : 0 < m) (hs : 0 ≤ s) {o p : Option Int} (h : TimesIs m s d o) (k : TimesIs m s d p) : o = p := by
  cases o with
  | none =>
    cases p with
    | none => rfl
    | some t => exact absurd k.2.2 (h t)
  | some t =>
    cases p with
    | none => exact absurd h.2.2 (k t)
    | some u => rw [IsTimes.uniq hm hs h k]
/-- the way of a row up to a place -/
def upTo (row : List (S × Int)) (i : Nat) : Int := ((row.take (i + 1)).map (·.2)).sum
/-- the place behind the laying of a number -/
def plOf (row : List (S × Int)) (m : Int) (k : Nat) : Int := (((k / row.length : Nat) : Int) * (row.map (·.2)).sum + upTo row (k % row.length)) % m
def FirstAt (row : List (S × Int)) (m p : Int) (k : Nat) : Prop := plOf row m k = p ∧ ∀ j, j < k → plOf row m j ≠ p
theorem FirstAt.uniq {row : List (S × Int)} {m p : Int} {j k : Nat} (h : FirstAt row m p j) (g : FirstAt row m p k) : j = k := by
  rcases Nat.lt_trichotomy j k with z | z | z
  · exact absurd h.1 (g.2 j z)
  · exact z
  · exact absurd g.1 (h.2 k z)
def rle : List Nat → List Nat → Prop
  | [], [] => True
  | a :: as, b :: bs => a < b ∨ (a = b ∧ rle as bs)
  | _, _ => False
theorem rle_antisymm : ∀ {x y : List Nat}, rle x y → rle y x → x = y
  | [], [], _, _ => rfl
  | [], _ :: _, h, _ => h.elim
  | _ :: _, [], h, _ => h.elim
  | a :: as, b :: bs, h1, h2 => by
    rcases h1 with h1 | ⟨h1, k1⟩
    · rcases h2 with h2 | ⟨h2, k2⟩ <;> omega
    · rcases h2 with h2 | ⟨h2, k2⟩
      · omega
      · rw [h1, rle_antisymm k1 k2]
def keyW (steps : List (S × Int)) (w : List (S × Int)) : List Nat := w.map fun l => steps.idxOf l
theorem keyW_inj {steps : List (S × Int)} : ∀ {w v : List (S × Int)}, (∀ l, l ∈ w → l ∈ steps) → (∀ l, l ∈ v → l ∈ steps) → keyW steps w = keyW steps v → w = v
  | [], [], _, _, _ => rfl
  | [], _ :: _, _, _, h => by cases h
  | _ :: _, [], _, _, h => by cases h
  | a :: as, b :: bs, h1, h2, h => by
    unfold keyW at h
    rw [List.map_cons, List.map_cons] at h
    injection h with e1 e2
    have ha := List.idxOf_lt_length_of_mem (h1 a List.mem_cons_self)
    have hb := List.idxOf_lt_length_of_mem (h2 b List.mem_cons_self)
    have hab : a = b := by
      rw [← List.getElem_idxOf ha, ← List.getElem_idxOf hb]
      simp only [e1]
    rw [hab, keyW_inj (fun l hl => h1 l (List.mem_cons_of_mem _ hl)) (fun l hl => h2 l (List.mem_cons_of_mem _ hl)) e2]
/-- rows from one place to another -/
def RowTo (r : Rak) (m q : Int) (w : List (S × Int)) (p : Int) : Prop := (∀ l, l ∈ w → l ∈ stepsL r) ∧ w.foldl (nxR m) q = p
theorem RowTo.cons {r : Rak} {m q p : Int} {l : S × Int} {w : List (S × Int)} : RowTo r m q (l :: w) p ↔ l ∈ stepsL r ∧ RowTo r m (nxR m q l) w p := by
  unfold RowTo
  constructor
  · rintro ⟨h1, h2⟩
    exact ⟨h1 l List.mem_cons_self, fun x hx => h1 x (List.mem_cons_of_mem _ hx), h2⟩
  · rintro ⟨h1, h2, h3⟩
    exact ⟨fun x hx => (List.mem_cons.mp hx).elim (fun e => e ▸ h1) (h2 x), h3⟩
/-- the least one of the shortest rows -/
structure Best (r : Rak) (m q p : Int) (k : Nat) (w : List (S × Int)) : Prop where
  dst : Dst (nbrR r m) q k p
  len : w.length = k
  row : RowTo r m q w p
  min : ∀ v, RowTo r m q v p → v.length = k → rle (keyW (stepsL r) w) (keyW (stepsL r) v)
theorem Best.uniq {r : Rak} {m q p : Int} {j k : Nat} {w v : List (S × Int)} (h : Best r m q p j w) (g : Best r m q p k v) : w = v ∧ j = k := by
  have e : j = k := h.dst.uniq g.dst
  subst e
  exact ⟨keyW_inj h.row.1 g.row.1 (rle_antisymm (h.min v g.row g.len) (g.min w h.row h.len)), rfl⟩
def errO (r : Rak) (n : S) : Int := ((dget r.held n).map (·.error)).getD 0
def cst (r : Rak) : List (S × Int) → Int × Int
  | [] => (0, 0)
  | st :: row => ((cst r row).1 + errO r st.1, (cst r row).2 + 1)
theorem spans_last {u : Rul} (hu : RulOk u) : ∃ len, m_Ruler_length u = .ok len ∧ (∀ m, m ∈ u.marks → m ≤ len) ∧ 0 ≤ len ∧ len ≤ 300 := by
  have hl : 0 < u.marks.length := by have := hu.lo; omega
  obtain ⟨len, hlen⟩ : ∃ x, u.marks[u.marks.length - 1]? = some x := ⟨_, List.getElem?_eq_getElem (by omega)⟩
  have hm := List.mem_of_getElem? hlen
  refine ⟨len, ?_, fun m hm2 => ?_, hu.nn hm, hu.le _ hm⟩
  · unfold m_Ruler_length
    rw [Out.bind_get (pix_last (by rw [List.getLast?_eq_getElem?]; exact hlen))]
  · obtain ⟨i, hi, rfl⟩ := List.getElem_of_mem hm2
    by_cases e : i = u.marks.length - 1
    · subst e
      rw [List.getElem?_eq_getElem hi] at hlen
      exact Int.le_of_eq (Option.some.inj hlen)
    · exact Int.le_of_lt (pairwise_get hu.lt (List.getElem?_eq_getElem hi) hlen (by omega))
theorem span_le {u : Rul} (hu : RulOk u) {len d : Int} (h : ∀ m, m ∈ u.marks → m ≤ len) (hd : d ∈ spansL u.marks) : d ≤ len := by
  obtain ⟨i, j, x, y, hij, hx, hy, rfl⟩ := mem_spreadL.mp (mem_spansL.mp hd)
  have h1 := hu.nn (List.mem_of_getElem? hx)
  have h2 := h _ (List.mem_of_getElem? hy)
  omega
/-- what a row of layings leaves -/
def laidB (r : Rak) (s : Scn) (row : List (S × Int)) : Scn := ⟨s.cuts, s.errors + (cst r row).1, s.laid + (row.length : Int), s.spot + (row.map (·.2)).sum⟩
theorem err_of {r : Rak} {n : S} {u : Rul} (h : dget r.held n = some u) : errO r n = u.error := by unfold errO; rw [h]; rfl
theorem laid_on_ok {b : S_Bench} {row : List (S × Int)} (h : ∀ st, st ∈ row → st.1 ∈ keys b.rack_used.held) : m_Bench_laid_on b row = .ok (laidB b.rack_used b.scene row) := by
  unfold m_Bench_laid_on
  have key : ∀ (row : List (S × Int)) (x y : Int), (∀ st, st ∈ row → st.1 ∈ keys b.rack_used.held) → Out.fold (σ := Int × Int) (fun s5 (x7 : (S × Int)) =>
      (Out.ok (s5.1 + x7.2)).bind fun spot9 =>
      ((m_Rack___getitem b.rack_used x7.1).nox).bind fun r10 =>
      (Out.ok (s5.2 + (m_Ruler_error r10))).bind fun errors12 => Out.ok (spot9, errors12)) row (x, y) = .ok (x + (row.map (·.2)).sum, y + (cst b.rack_used row).1) := by
    intro row
    induction row with
    | nil => intro x y _; rw [Out.fold_nil]; show Out.ok (x, y) = Out.ok (x + 0, y + 0); rw [Int.add_zero, Int.add_zero]
    | cons st row ih =>
      intro x y h
      obtain ⟨u, hu⟩ := dget_some (h st List.mem_cons_self)
      rw [Out.fold_cons, Out.bind_ok, item_ok hu, Out.nox_ok, Out.bind_ok, Out.bind_ok, Out.bind_ok, ih _ _ fun q hq => h q (List.mem_cons_of_mem _ hq)]
      have e1 : (cst b.rack_used (st :: row)).1 = (cst b.rack_used row).1 + errO b.rack_used st.1 := rfl
      rw [e1, err_of hu, List.map_cons, List.sum_cons]
      show Out.ok (x + st.2 + _, y + u.error + _) = _
      congr 2 <;> omega
  rw [Out.bind_ok, Out.bind_ok, key row _ _ h, Out.bind_ok]
  rfl
theorem enter_ok {b : S_Bench} {op : List At} {sc : Scn} {mk : List (S × Scn)} (h : b.past.length < 100000) : m_Bench_enter b op sc mk = .ok ((), ⟨b.rack_used, b.last, sc, mk, b.past ++ [(op, b.scene, b.marked, sc, mk)], []⟩) := by
  unfold m_Bench_enter
  have hLIM : (200000 : Nat) ≤ LIM := by decide
  rw [Out.bind_guard (by omega)]
theorem lay_ok {b : S_Bench} {n : S} {k : Int} (hR : RakOk b.rack_used) (hs : (n, k) ∈ stepsL b.rack_used) (h0 : 0 ≤ b.scene.spot + k) (h1 : b.scene.spot + k ≤ b.last) (hp : b.past.length < 100000) :
    m_Bench_lay b n k = .ok (b.scene.spot + k, ⟨b.rack_used, b.last, laidB b.rack_used b.scene [(n, k)], b.marked, b.past ++ [([At.s z_lay, At.s n, At.i k], b.scene, b.marked, laidB b.rack_used b.scene [(n, k)], b.marked)], []⟩) := by
  obtain ⟨p, hp1, hp2, hp3⟩ := mem_stepsL.mp hs
  have hu : dget b.rack_used.held n = some p.2 := by
    rw [show n = p.1 from hp2]; exact dget_of_mem hR.nd hp1
  have hru := hR.ru _ hp1
  obtain ⟨len, l1, l2, l3, l4⟩ := spans_last hru
  have hab : (if k < 0 then -k else k) ∈ spansL p.2.marks := by
    rcases hp3 with z | z
    · have z : k ∈ spansL p.2.marks := z
      have := hru.span z
      rw [if_neg (by omega)]; exact z
    · have z : 0 - k ∈ spansL p.2.marks := z
      have := hru.span z
      rw [if_pos (by omega), show -k = 0 - k by omega]; exact z
  have hle := span_le hru l2 hab
  have hk : 0 - len ≤ k ∧ k ≤ len := by split at hle <;> omega
  unfold m_Bench_lay
  rw [item_ok hu, Out.nox_ok, Out.bind_ok, l1, Out.nox_ok, Out.bind_ok, Out.bind_ok, if_neg (by rw [isnum_t hk.1 hk.2]; decide), spans_ok (by have := hru.hi; omega), Out.nox_ok, Out.bind_ok, Out.bind_ok, if_neg (by rw [decide_eq_true hab]; decide),
    if_neg (by rw [decide_eq_true h0, decide_eq_true h1]; decide), laid_on_ok (fun st hst => by rw [List.mem_singleton] at hst; subst hst; exact List.mem_map.mpr ⟨_, dget_mem hu, rfl⟩), Out.bind_ok, enter_ok hp, Out.bind_ok]
  show Out.ok (b.scene.spot + (k + 0), _) = _
  rw [Int.add_zero]
theorem mk_Bench_ok {r : Rak} {e : Int} (h1 : 1 ≤ e) (h2 : e ≤ 200) : mk_Bench r e = .ok ⟨r, e, ⟨[], 0, 0, 0⟩, [], [], []⟩ := by
  unfold mk_Bench
  rw [valid_ok h1 h2 (fun p hp => by cases hp), Out.bind_ok]; rfl
theorem row2_yes {d : List (S × (List Int × Int))} {r : Rak} (h : DrOk d) (hR : RakOk r) (hp : r.held.Perm (heldOf d)) {most : Int} (h1 : 1 ≤ most) (h2 : most ≤ 11) (bx : Bh) : (m_law_row d most bx).yes fun q => q.1 ≠ [] ∧ (q.1.length : Int) ≤ most ∧ ∀ st, st ∈ q.1 → st ∈ stepsL r := by
  unfold m_law_row
  rw [law_steps2 h hp, Out.bind_ok, Out.bind_ok, Out.bind_ok]
  have hsp : 0 < (stepsL r).length := List.length_pos_iff.mpr hR.steps_ne
  have hsf := hR.steps_few
  refine Out.yes_bind (next_yes (by omega) (by omega) _) fun r9 h9 => Out.yes_guard (by constructor <;> omega) ?_
  refine Out.yes_bind (Out.fold_yes (fun (pre : List Int) (s : List (S × Int) × Bh) => s.1.length = pre.length ∧ ∀ st, st ∈ s.1 → st ∈ stepsL r) _ _ ⟨rfl, fun st hs => by cases hs⟩ fun pre x post s hpp hI => ?_) fun s hs => ?_
  · have hpl : pre.length < 100 := by
      have := congrArg List.length hpp
      rw [rgI_length, List.length_append, List.length_cons] at this
      omega
    refine Out.yes_bind (next_yes (by omega) (by omega) _) fun r12 h12 => ?_
    obtain ⟨st, e1, e2⟩ := pix_some h12.1 h12.2
    refine Out.yes_get e1 (Out.yes_guard (by show _ < 16777216; omega) (Out.yes_let (Out.yes_ok ⟨by simp [hI.1], fun q hq => ?_⟩)))
    rcases List.mem_append.mp hq with hq | hq
    · exact hI.2 q hq
    · rw [List.mem_singleton] at hq; subst hq; exact e2
  · rw [rgI_length] at hs
    refine Out.yes_ok ⟨fun z => ?_, ?_, hs.2⟩
    · have := hs.1; dsimp only at z; rw [z] at this; simp at this; omega
    · have := hs.1; dsimp only; omega
def cl (x : S) : List Nat := x.1.cps.toList
theorem cl_cat (x y : S) : cl (zcat x y) = cl x ++ cl y := by
  show (x.1.cps ++ y.1.cps).toList = _
  rw [Array.toList_append]; rfl
theorem cl_ext {x y : S} (h : cl x = cl y) : x = y := by
  obtain ⟨⟨a⟩, ha⟩ := x
  obtain ⟨⟨b⟩, hb⟩ := y
  have h : a.toList = b.toList := h
  have e : a = b := Array.toList_inj.mp h
  subst e; rfl
theorem cl_len (x : S) : x.1.length = (cl x).length := Array.length_toList.symm
theorem cl_bar : cl z__ = [124] := by decide +kernel
theorem cl_dash : cl z___ = [45] := by decide +kernel
theorem cl_nil : cl z_ = [] := by decide +kernel
theorem foldl_app {a : Array Nat} : ∀ (n : Nat) (b : Array Nat), ((List.replicate n a).foldl (· ++ ·) b).toList = b.toList ++ (List.replicate n a.toList).flatten
  | 0, b => by simp
  | n + 1, b => by
    rw [List.replicate_succ, List.foldl_cons, foldl_app n (b ++ a), Array.toList_append, List.replicate_succ, List.flatten_cons, List.append_assoc]
theorem cl_mul (n : Int) : cl (zmul z___ n) = List.replicate n.toNat 45 := by
  show (Txt.mul z___.1 n).cps.toList = _
  unfold Txt.mul
  split
  · rename_i h; rw [show n.toNat = 0 by omega]; rfl
  · split
    · rename_i h1 h2
      have : n = 1 := by
        rw [Bool.or_eq_true] at h2
        rcases h2 with z | z
        · exact eq_of_beq z
        · exact absurd z (by decide +kernel)
      rw [this]; exact cl_dash
    · show ((List.replicate n.toNat z___.1.cps).foldl (· ++ ·) #[]).toList = _
      rw [foldl_app]
      show [] ++ (List.replicate n.toNat (cl z___)).flatten = _
      rw [cl_dash, List.nil_append, flat_one]
theorem foldl_glu0 : ∀ (ps : List Str) (b : Array Nat), ((ps.foldl (fun acc p => acc ++ (Str.cps z_.1) ++ p.cps) b).toList) = b.toList ++ (ps.map (fun p => p.cps.toList)).flatten
  | [], b => by simp
  | p :: ps, b => by
    rw [List.foldl_cons, foldl_glu0 ps, Array.toList_append, Array.toList_append, List.map_cons, List.flatten_cons, show (Str.cps z_.1).toList = [] from cl_nil, List.append_nil, List.append_assoc]
theorem cl_join (ps : List S) : cl (zjoin z_ ps) = (ps.map cl).flatten := by
  show (Builtin.Str.glued z_.1 (ps.map (·.1))).cps.toList = _
  unfold Builtin.Str.glued
  show ((((ps.map (·.1)).drop 1).foldl (fun acc p => acc ++ (Str.cps z_.1) ++ p.cps) ((ps.map (·.1)).headD Str.empty).cps)).toList = _
  rw [foldl_glu0]
  cases ps with
  | nil => rfl
  | cons p ps =>
    show p.1.cps.toList ++ ((ps.map (·.1)).map (fun p => p.cps.toList)).flatten = _
    rw [List.map_map]; rfl
theorem flat_le {α : Type} {g : α → List Nat} {B : Nat} : ∀ {xs : List α}, (∀ x, x ∈ xs → (g x).length ≤ B) → (xs.flatMap g).length ≤ xs.length * B
  | [], _ => by simp
  | x :: xs, h => by
    rw [List.flatMap_cons, List.length_append, List.length_cons, Nat.add_mul, Nat.one_mul]
    have h1 := h x List.mem_cons_self
    have h2 := flat_le (xs := xs) fun y hy => h y (List.mem_cons_of_mem _ hy)
    omega
theorem fold_text {α : Type} (g : α → S) (xs : List α) (s0 : S) {f : S → α → Out S} (B : Nat) (hf : ∀ s x, x ∈ xs → s.1.length + (g x).1.length ≤ LIM → f s x = .ok (zcat s (g x))) (hB : ∀ x, x ∈ xs → (cl (g x)).length ≤ B) (hl : (cl s0).length + xs.length * B ≤ LIM) :
    (Out.fold f xs s0).yes fun s => cl s = cl s0 ++ xs.flatMap fun x => cl (g x) := by
  refine Out.fold_yes (fun (pre : List α) (s : S) => cl s = cl s0 ++ pre.flatMap fun x => cl (g x)) _ _ (by simp) fun pre x post s hp hI => ?_
  have hx : x ∈ xs := by rw [hp]; simp
  have h1 := flat_le (g := fun x => cl (g x)) (B := B) (xs := pre) fun y hy => hB y (by rw [hp]; exact List.mem_append_left _ hy)
  have h2 := hB x hx
  have h3 : pre.length + 1 ≤ xs.length := by rw [hp, List.length_append, List.length_cons]; omega
  have h4 : (pre.length + 1) * B ≤ xs.length * B := Nat.mul_le_mul_right B h3
  rw [Nat.add_mul, Nat.one_mul] at h4
  rw [hf s x hx (by rw [cl_len, cl_len, hI, List.length_append]; omega)]
  exact Out.yes_ok (by rw [cl_cat, hI, List.flatMap_append, List.append_assoc]; simp)
theorem zint_all : (rgI 0 301).all (fun d => decide (ziOk d ∧ (zint d).1.length ≤ 8)) = true := by decide +kernel
theorem zint_ok {d : Int} (h0 : 0 ≤ d) (h1 : d ≤ 300) : ziOk d ∧ (zint d).1.length ≤ 8 := of_decide_eq_true (List.all_eq_true.mp zint_all d (by rw [mem_rgI]; omega))
def wayL (len x y : Int) : List Nat := (if len ≤ 60 then List.replicate (y - x - 1).toNat 45 else cl (zint (y - x))) ++ [124]
theorem drawing_yes {ms : List Int} (h : RulOk ⟨0, ms⟩) {len : Int} (hlen : ms.getLast? = some len) : (m_drawing ⟨0, ms⟩).yes fun s => cl s = [124] ++ (ms.zip (ms.drop 1)).flatMap fun q => wayL len q.1 q.2 := by
  unfold m_drawing
  have hm : m_Ruler_marks ⟨0, ms⟩ = ms := rfl
  have hhi : ms.length ≤ 12 := h.hi
  have hln : m_Ruler_length ⟨0, ms⟩ = .ok len := by unfold m_Ruler_length; rw [Out.bind_get (pix_last hlen)]
  rw [hm]
  refine Out.yes_guard (by show _ ≤ 16777216; omega) ?_
  rw [show pcut ms (some (1 : Int)) none = ms.drop 1 from pcut_from ms 1]
  refine Out.yes_bind (Out.fold_yes (fun (pre : List (Int × Int)) (s : S) => cl s = [124] ++ pre.flatMap fun q => wayL len q.1 q.2) _ _ (by rw [List.flatMap_nil, List.append_nil]; exact cl_bar) fun pre q post s hp hI => ?_) fun s hs => Out.yes_ok hs
  have hq : q ∈ ms.zip (ms.drop 1) := by rw [hp]; simp
  have pairs : ∀ q, q ∈ ms.zip (ms.drop 1) → 1 ≤ q.2 - q.1 ∧ q.2 - q.1 ≤ 300 := fun q hq => by
    obtain ⟨i, hi⟩ := List.mem_iff_getElem?.mp hq
    obtain ⟨h1, h2⟩ := List.getElem?_zip_eq_some.mp hi
    rw [List.getElem?_drop] at h2
    have h3 := pairwise_get h.lt h1 h2 (by omega)
    have h4 := h.nn (List.mem_of_getElem? h1)
    have h5 := h.le q.2 (List.mem_of_getElem? h2)
    omega
  have hd := pairs q hq
  have hB : ∀ q, q ∈ ms.zip (ms.drop 1) → (wayL len q.1 q.2).length ≤ 400 := fun q hq => by
    have hd := pairs q hq
    unfold wayL
    rw [List.length_append, List.length_singleton]
    split
    · rw [List.length_replicate]; omega
    · have := (zint_ok (d := q.2 - q.1) (by omega) hd.2).2; rw [cl_len] at this; omega
  have h1 := flat_le (g := fun q : Int × Int => wayL len q.1 q.2) (B := 400) (xs := pre) fun y hy => hB y (by rw [hp]; exact List.mem_append_left _ hy)
  have h3 : pre.length + 1 ≤ 12 := by
    have := congrArg List.length hp
    rw [List.length_zip, List.length_drop, List.length_append, List.length_cons] at this
    omega
  have hs : s.1.length ≤ 4801 := by rw [cl_len, hI, List.length_append, List.length_singleton]; omega
  rw [hln, show (Out.ok len).nox = Out.ok len from rfl, Out.bind_ok]
  refine Out.yes_bind (R := fun w => cl w = if len ≤ 60 then List.replicate (q.2 - q.1 - 1).toNat 45 else cl (zint (q.2 - q.1))) ?_ fun w hw => ?_
  · by_cases c : len ≤ 60
    · rw [if_pos (decide_eq_true c), if_pos c]
      exact Out.yes_guard ⟨by rw [cl_len, cl_dash]; decide, by omega, by omega⟩ (Out.yes_ok (cl_mul _))
    · rw [if_neg (by rw [decide_eq_true_eq]; exact c), if_neg c]
      exact Out.yes_guard (zint_ok (by omega) hd.2).1 (Out.yes_ok rfl)
  · have hwl : w.1.length ≤ 400 := by
      have := hB q hq
      unfold wayL at this
      rw [List.length_append, List.length_singleton, ← hw, ← cl_len] at this
      omega
    have hbl : z__.1.length = 1 := by rw [cl_len, cl_bar]; rfl
    have hzl : (zcat s w).1.length = s.1.length + w.1.length := by rw [cl_len, cl_cat, List.length_append, ← cl_len, ← cl_len]
    refine Out.yes_guard (by show _ ≤ 16777216; omega) (Out.yes_let (Out.yes_guard (by rw [hzl, hbl]; show _ ≤ 16777216; omega) (Out.yes_let (Out.yes_ok ?_))))
    rw [cl_cat, cl_cat, hI, hw, cl_bar, List.flatMap_append, List.flatMap_singleton, List.append_assoc, List.append_assoc]
    rfl
/-- from mark to mark -/
def dl : Int → List Int → List Nat
  | _, [] => []
  | a, b :: ms => List.replicate (b - a - 1).toNat 45 ++ [124] ++ dl b ms
theorem zip_dl {len : Int} (hc : len ≤ 60) : ∀ (a : Int) (ms : List Int), (((a :: ms).zip ms).flatMap fun q => wayL len q.1 q.2) = dl a ms
  | _, [] => rfl
  | a, b :: ms => by
    rw [List.zip_cons_cons, List.flatMap_cons, zip_dl hc b ms]
    show wayL len a b ++ _ = _
    unfold wayL
    rw [if_pos hc]; rfl
theorem rgI_app {a b : Int} (h : a ≤ b) : ∀ (n : Nat), rgI a (b + (n : Int)) = rgI a b ++ rgI b (b + (n : Int))
  | 0 => by rw [show b + ((0 : Nat) : Int) = b by omega, rgI_nil (Int.le_refl b), List.append_nil]
  | n + 1 => by
    rw [show b + ((n + 1 : Nat) : Int) = (b + (n : Int)) + 1 by omega, rgI_snoc (by omega), rgI_snoc (by omega), rgI_app h n, List.append_assoc]
theorem rgI_split {a b c : Int} (h : a ≤ b) (h2 : b ≤ c) : rgI a c = rgI a b ++ rgI b c := by
  have := rgI_app h (c - b).toNat
  rwa [show b + ((c - b).toNat : Int) = c by omega] at this
theorem flat_const {α : Type} {g : α → List Nat} {v : Nat} : ∀ {xs : List α}, (∀ x, x ∈ xs → g x = [v]) → xs.flatMap g = List.replicate xs.length v
  | [], _ => rfl
  | x :: xs, h => by
    rw [List.flatMap_cons, h x List.mem_cons_self, flat_const fun y hy => h y (List.mem_cons_of_mem _ hy)]; rfl
theorem flat_eq {α : Type} {f g : α → List Nat} : ∀ {xs : List α}, (∀ x, x ∈ xs → f x = g x) → xs.flatMap f = xs.flatMap g
  | [], _ => rfl
  | x :: xs, h => by rw [List.flatMap_cons, List.flatMap_cons, h x List.mem_cons_self, flat_eq fun y hy => h y (List.mem_cons_of_mem _ hy)]
def indL (ms : List Int) (p : Int) : List Nat := if p ∈ ms then [124] else [45]
theorem dl_ind : ∀ (ms : List Int) (a len : Int), (a :: ms).Pairwise (· < ·) → (a :: ms).getLast? = some len → dl a ms = (rgI (a + 1) (len + 1)).flatMap (indL ms)
  | [], a, len, _, h => by obtain rfl : a = len := Option.some.inj h; rw [rgI_nil (Int.le_refl _)]; rfl
  | b :: ms, a, len, hp, h => by
    have hp2 := List.pairwise_cons.mp hp
    have hab := hp2.1 b List.mem_cons_self
    have hb := List.pairwise_cons.mp hp2.2
    have hlast : (b :: ms).getLast? = some len := by rw [List.getLast?_cons_cons] at h; exact h
    have hbl : b ≤ len := by
      have hm := List.mem_of_getLast? hlast
      rcases List.mem_cons.mp hm with z | z
      · omega
      · have := hb.1 len z; omega
    rw [rgI_split (b := b) (by omega) (by omega), rgI_cons (a := b) (by omega), List.flatMap_append, List.flatMap_cons]
    rw [flat_const (v := 45) (xs := rgI (a + 1) b) (fun x hx => by
      rw [mem_rgI] at hx
      unfold indL
      rw [if_neg fun z => by
        rcases List.mem_cons.mp z with y | y
        · omega
        · have := hb.1 x y; omega]), rgI_length]
    rw [flat_eq (f := indL (b :: ms)) (g := indL ms) (xs := rgI (b + 1) (len + 1)) (fun x hx => by
      rw [mem_rgI] at hx
      unfold indL
      by_cases c : x ∈ ms
      · rw [if_pos c, if_pos (List.mem_cons_of_mem _ c)]
      · rw [if_neg c, if_neg fun z => by
          rcases List.mem_cons.mp z with y | y
          · omega
          · exact c y]), ← dl_ind ms b len hp2.2 hlast]
    show List.replicate (b - a - 1).toNat 45 ++ [124] ++ dl b ms = _
    rw [show indL (b :: ms) b = [124] from if_pos List.mem_cons_self, show b - (a + 1) = b - a - 1 by omega, List.append_assoc]
theorem sum_le {α : Type} {f : α → Nat} {B : Nat} : ∀ {xs : List α}, (∀ x, x ∈ xs → f x ≤ B) → (xs.map f).sum ≤ xs.length * B
  | [], _ => by simp
  | x :: xs, h => by
    rw [List.map_cons, List.sum_cons, List.length_cons, Nat.add_mul, Nat.one_mul]
    have h1 := h x List.mem_cons_self
    have h2 := sum_le (xs := xs) fun y hy => h y (List.mem_cons_of_mem _ hy)
    omega
theorem cl_map {α : Type} (g : α → S) (xs : List α) : ((xs.map g).map cl).flatten = xs.flatMap fun x => cl (g x) := by
  rw [List.map_map]; rfl
/-- what the law writes of long rulers -/
theorem long_yes {ms : List Int} (h : RulOk ⟨0, ms⟩) : (Out.compS (fun (s26 : Unit) (x23 : Int) =>
    (Out.get (pix ms x23)).bind fun x28 =>
    (Out.get (pix ms (x23 - (1 : Int)))).bind fun x29 =>
    (Out.guard (ziOk (x28 - x29))).bind fun _ =>
    (Out.guard ((zint (x28 - x29)).1.length + z__.1.length ≤ LIM)).bind fun _ =>
    Out.ok (some (zcat (zint (x28 - x29)) z__), ())) (rgI (1 : Int) (ms.length : Int)) [] ()).yes fun l => l.1 = (ms.zip (ms.drop 1)).map fun q => zcat (zint (q.2 - q.1)) z__ := by
  have hbl : z__.1.length = 1 := by rw [cl_len, cl_bar]; rfl
  have hlo : 2 ≤ ms.length := h.lo
  have hz : (ms.zip (ms.drop 1)).length = ms.length - 1 := by rw [List.length_zip, List.length_drop]; omega
  refine (Out.compS_yes (fun (pre : List Int) (acc : List S) (_ : Unit) => acc = ((ms.zip (ms.drop 1)).take pre.length).map fun q => zcat (zint (q.2 - q.1)) z__) _ _ rfl fun pre x post acc s hp hI => ?_).mono fun l hl => ?_
  · have e1 := congrArg (fun l : List Int => l[pre.length]?) hp
    rw [List.getElem?_append_right (Nat.le_refl _), Nat.sub_self] at e1
    obtain ⟨e2, e3⟩ := rgI_get (show (rgI 1 (ms.length : Int))[pre.length]? = some x from by rw [e1]; rfl)
    have hk : pre.length + 1 < ms.length := by omega
    have g1 : ms[pre.length + 1]? = some ms[pre.length + 1] := List.getElem?_eq_getElem hk
    have g0 : ms[pre.length]? = some (ms[pre.length]'(by omega)) := List.getElem?_eq_getElem (by omega)
    obtain ⟨y1, hy1⟩ : ∃ y, y = ms[pre.length + 1] := ⟨_, rfl⟩
    obtain ⟨y0, hy0⟩ : ∃ y, y = ms[pre.length]'(by omega) := ⟨_, rfl⟩
    rw [← hy1] at g1
    rw [← hy0] at g0
    have q1 : pix ms x = some y1 := by rw [e3, show (1 : Int) + (pre.length : Int) = ((pre.length + 1 : Nat) : Int) by omega]; exact pix_nat g1
    have q0 : pix ms (x - 1) = some y0 := by rw [e3, show (1 : Int) + (pre.length : Int) - 1 = ((pre.length : Nat) : Int) by omega]; exact pix_nat g0
    have h3 := pairwise_get h.lt g0 g1 (by omega)
    have h4 := h.nn (List.mem_of_getElem? g0)
    have h5 := h.le y1 (List.mem_of_getElem? g1)
    have hzi := zint_ok (d := y1 - y0) (by omega) (by have h5 : y1 ≤ 300 := h5; omega)
    refine Out.yes_get q1 (Out.yes_get q0 (Out.yes_guard hzi.1 (Out.yes_guard (by have := hzi.2; rw [hbl]; show _ ≤ 16777216; omega) (Out.yes_ok ?_))))
    dsimp only
    have gz : (ms.zip (ms.drop 1))[pre.length]? = some (y0, y1) := List.getElem?_zip_eq_some.mpr ⟨g0, by rw [List.getElem?_drop, Nat.add_comm]; exact g1⟩
    rw [hI, List.length_append, List.length_singleton, List.take_succ, gz, List.map_append]
    rfl
  · rw [hl, rgI_length, List.take_of_length_le (by rw [hz]; omega)]
theorem scratch_ok {b : S_Bench} (hp : b.past.length < 100000) (hc : b.scene.cuts.length < 100000) : ∃ v b', m_Bench_scratch b = .ok (v, b') ∧ b'.rack_used = b.rack_used ∧ b'.last = b.last ∧ b'.scene.spot = b.scene.spot ∧ (∀ x, x ∈ b'.scene.cuts ↔ x ∈ b.scene.cuts ∨ x = b.scene.spot) ∧ b'.past.length = b.past.length + 1 ∧ b'.scene.cuts.length ≤ b.scene.cuts.length + 1 := by
  unfold m_Bench_scratch
  rw [Out.bind_ok]
  by_cases c : b.scene.spot ∈ b.scene.cuts
  · rw [if_neg (by rw [decide_eq_true c]; decide), Out.bind_ok, show mk_Scene b.scene.spot b.scene.laid b.scene.errors b.scene.cuts = .ok ⟨b.scene.cuts, b.scene.errors, b.scene.laid, b.scene.spot⟩ from rfl, Out.bind_ok, enter_ok hp, Out.bind_ok]
    refine ⟨_, _, rfl, rfl, rfl, rfl, fun x => ⟨fun h => .inl h, fun h => ?_⟩, by simp, Nat.le_succ _⟩
    rcases h with h | h
    · exact h
    · rw [h]; exact c
  · rw [if_pos (by rw [decide_eq_false c]; rfl), Out.bind_guard (by show _ + 1 ≤ 16777216; omega), Out.bind_ok, show mk_Scene b.scene.spot b.scene.laid b.scene.errors (dsort eI (b.scene.cuts ++ [b.scene.spot])) = .ok ⟨dsort eI (b.scene.cuts ++ [b.scene.spot]), b.scene.errors, b.scene.laid, b.scene.spot⟩ from rfl, Out.bind_ok, enter_ok hp, Out.bind_ok]
    have hperm : (dsort eI (b.scene.cuts ++ [b.scene.spot])).Perm (b.scene.cuts ++ [b.scene.spot]) := List.mergeSort_perm _ _
    refine ⟨_, _, rfl, rfl, rfl, rfl, fun x => ?_, by simp, ?_⟩
    · show x ∈ dsort eI (b.scene.cuts ++ [b.scene.spot]) ↔ _
      rw [hperm.mem_iff, List.mem_append, List.mem_singleton]
    · show (dsort eI (b.scene.cuts ++ [b.scene.spot])).length ≤ _
      rw [hperm.length_eq, List.length_append]; exact Nat.le_refl _
def sgn (pl : Int) (cuts : List Int) (x : Int) : S := if decide (x = pl) = true then z____ else if decide (x ∈ cuts) = true then z_x else z_____
theorem sgn_len (pl : Int) (cuts : List Int) (x : Int) : (cl (sgn pl cuts x)).length ≤ 1 := by
  unfold sgn
  split
  · exact Nat.le_of_eq (by decide +kernel)
  · split <;> exact Nat.le_of_eq (by decide +kernel)
theorem line_yes {b : S_Bench} (h0 : 1 ≤ b.last) (h1 : b.last ≤ 200) : (m_bench_line b).yes fun s => cl s = (rgI 0 (b.last + 1)).flatMap fun x => cl (sgn b.scene.spot b.scene.cuts x) := by
  unfold m_bench_line
  refine Out.yes_guard (by constructor <;> omega) ?_
  refine Out.yes_bind (fold_text (sgn b.scene.spot b.scene.cuts) _ _ 1 (fun s x _ hg => ?_) (fun x _ => sgn_len _ _ x) ?_) fun s hs => Out.yes_ok ?_
  · have hpl : m_Bench_place b = b.scene.spot := rfl
    have hsc : m_Bench_scratches b = b.scene.cuts := rfl
    rw [hpl, hsc]
    unfold sgn at hg ⊢
    by_cases c : decide (x = b.scene.spot) = true
    · rw [if_pos c] at hg ⊢
      rw [if_pos c, Out.bind_guard hg]; rfl
    · rw [if_neg c] at hg ⊢
      rw [if_neg c, Out.bind_guard hg]; rfl
  · rw [rgI_length, cl_nil]; show 0 + _ ≤ 16777216; omega
  · rw [hs, cl_nil, List.nil_append]
structure BOk (r : Rak) (e : Int) (n : Nat) (q : Int × List Int × S_Bench × Bh) : Prop where
  rk : q.2.2.1.rack_used = r
  ls : q.2.2.1.last = e
  sp : q.2.2.1.scene.spot = q.1
  ct : ∀ x, x ∈ q.2.2.1.scene.cuts ↔ x ∈ q.2.1
  pa : q.2.2.1.past.length ≤ 2 * n
  cn : q.2.1.length ≤ n
  bn : q.2.2.1.scene.cuts.length ≤ n
theorem law_true (ns : List Int) (hl : ns.length ≤ 63) : m_law ns = .ok true := by
  apply Out.yes.eq
  unfold m_law
  have hLIM : (200000 : Nat) ≤ LIM := by decide
  have hbl : z__.1.length = 1 := by rw [cl_len, cl_bar]; rfl
  have hdl : z___.1.length = 1 := by rw [cl_len, cl_dash]; rfl
  have hnl : z_.1.length = 0 := by rw [cl_len, cl_nil]; rfl
  refine Out.yes_guard hl ?_
  refine Out.yes_bind (Out.loop_yes (fun _ _ => True) (fun _ => False) _ _ trivial fun pre x post s hpre _ => ?_) fun t ht => ?_
  · refine Out.yes_bind (next_yes (by decide) (by decide) _) fun r9 h9 => ?_
    obtain ⟨wd, ew, mw⟩ := pix_some (xs := [(5 : Int), 9, 25]) h9.1 h9.2
    have hw : 1 ≤ wd ∧ wd ≤ 25 := by simp at mw; omega
    refine Out.yes_get ew (Out.yes_bind (marks2_yes (by decide) (by decide) hw.1 (by omega) _) fun r11 ⟨n, n1, n2, hg⟩ => Out.yes_let (Out.yes_let ?_))
    have hR : RulOk ⟨0, r11.1⟩ := hg.ok n1 (by omega) (by have := Int.mul_le_mul (show n ≤ 11 by omega) hw.2 (by omega) (by omega); omega) (by decide) (by decide)
    generalize r11.1 = ms at hR
    generalize r11.2 = bx1
    obtain ⟨ms', hms⟩ : ∃ ms', ms = 0 :: ms' := by
      cases ms with
      | nil => have := hR.hd; cases this
      | cons a l => have h : some a = some 0 := hR.hd; cases h; exact ⟨l, rfl⟩
    obtain ⟨len, hlen⟩ : ∃ len, ms.getLast? = some len := by
      rw [hms]; exact ⟨_, List.getLast?_cons⟩
    have hlm := List.mem_of_getLast? hlen
    have l0 := hR.nn hlm
    have l3 : len ≤ 300 := hR.le _ hlm
    have hp0 : pix ms (-(1 : Int)) = some len := pix_last hlen
    refine Out.yes_get hp0 (Out.yes_guard (by constructor <;> omega) ?_)
    have hind : ∀ x, (cl (if decide (x ∈ ms) = true then z__ else z___)).length ≤ 1 := fun x => by
      split
      · rw [cl_bar]; exact Nat.le_refl _
      · rw [cl_dash]; exact Nat.le_refl _
    refine Out.yes_bind (fold_text (fun x => if decide (x ∈ ms) = true then z__ else z___) _ _ 1 (fun s x _ hg => by rw [Out.bind_guard hg]; rfl) (fun x _ => hind x) (by rw [rgI_length, cl_nil]; show 0 + _ ≤ 16777216; omega)) fun s15 h15 => ?_
    rw [cl_nil, List.nil_append] at h15
    have hR0 : ms.length ≤ 12 := hR.hi
    have hR2 : 2 ≤ ms.length := hR.lo
    refine Out.yes_bind (R := fun s => cl s = [124] ++ (ms.zip (ms.drop 1)).flatMap fun q => wayL len q.1 q.2) ?_ fun s21 h21 => ?_
    · refine Out.yes_get hp0 ?_
      by_cases c : 60 < len
      · rw [if_pos (decide_eq_true c)]
        refine Out.yes_guard (by constructor <;> omega) (Out.yes_guard (by rw [rgI_length]; omega) ?_)
        refine Out.yes_bind (long_yes hR) fun l27 h27 => ?_
        have hzl : (ms.zip (ms.drop 1)).length ≤ 12 := by rw [List.length_zip]; omega
        have hcl : cl (zjoin z_ l27.1) = (ms.zip (ms.drop 1)).flatMap fun q => wayL len q.1 q.2 := by
          rw [cl_join, h27, cl_map]
          refine flat_eq fun q _ => ?_
          unfold wayL
          rw [cl_cat, cl_bar, if_neg (by omega)]
        have hwl : ∀ q, q ∈ ms.zip (ms.drop 1) → (wayL len q.1 q.2).length ≤ 9 ∧ (zcat (zint (q.2 - q.1)) z__).1.length ≤ 9 := fun q hq => by
          obtain ⟨i, hi⟩ := List.mem_iff_getElem?.mp hq
          obtain ⟨h1, h2⟩ := List.getElem?_zip_eq_some.mp hi
          rw [List.getElem?_drop] at h2
          have h3 := pairwise_get hR.lt h1 h2 (by omega)
          have h4 := hR.nn (List.mem_of_getElem? h1)
          have h5 : q.2 ≤ 300 := hR.le q.2 (List.mem_of_getElem? h2)
          have h6 := (zint_ok (d := q.2 - q.1) (by omega) (by omega)).2
          rw [cl_len] at h6
          unfold wayL
          rw [if_neg (by omega), cl_len, cl_cat, cl_bar, List.length_append, List.length_singleton]
          omega
        have hsum : (l27.1.map (·.1.length)).sum ≤ l27.1.length * 9 := sum_le fun y hy => by
          rw [h27] at hy
          obtain ⟨q, hq, rfl⟩ := List.mem_map.mp hy
          exact (hwl q hq).2
        have hll : l27.1.length ≤ 12 := by rw [h27, List.length_map]; exact hzl
        refine Out.yes_guard (by rw [hnl, Nat.mul_zero]; omega) (Out.yes_guard ?_ (Out.yes_let (Out.yes_ok ?_)))
        · have := flat_le (g := fun q : Int × Int => wayL len q.1 q.2) (B := 9) fun q hq => (hwl q hq).1
          rw [hbl, cl_len, hcl]; omega
        · rw [cl_cat, cl_bar, hcl]
      · rw [if_neg (by rw [decide_eq_true_eq]; exact c)]
        refine Out.yes_ok ?_
        have hpw : (0 :: ms').Pairwise (· < ·) := hms ▸ hR.lt
        rw [h15, hms, List.drop_succ_cons, List.drop_zero, zip_dl (by omega), dl_ind ms' 0 len hpw (hms ▸ hlen), rgI_cons (by omega), List.flatMap_cons, if_pos (decide_eq_true List.mem_cons_self), cl_bar]
        refine congrArg _ (flat_eq fun p hp => ?_)
        rw [mem_rgI] at hp
        unfold indL
        by_cases c : p ∈ ms'
        · rw [if_pos (decide_eq_true (List.mem_cons_of_mem _ c)), if_pos c, cl_bar]
        · rw [if_neg (by
            rw [decide_eq_true_eq]
            intro z
            rcases List.mem_cons.mp z with y | y
            · omega
            · exact c y), if_neg c, cl_dash]
    · rw [mk_Ruler_ok hR, Out.bind_ok]
      refine Out.yes_bind (drawing_yes hR hlen) fun r36 h36 => ?_
      refine Out.yes_guard ⟨cl_ext (h36.trans h21.symm), rfl⟩ (Out.yes_ifF rfl ?_)
      refine Out.yes_bind (drawn2K_yes (by decide) (by decide) (by decide) (by decide) _) fun r38 ⟨hD, _, _⟩ => ?_
      refine Out.yes_bind (next_yes (by decide) (by decide) _) fun r39 h39 => Out.yes_let (Out.yes_let ?_)
      refine Out.yes_bind (rack2_yes hD) fun r ⟨hK, hp⟩ => ?_
      obtain ⟨e, he⟩ : ∃ e, e = (1 : Int) + r39.1 := ⟨_, rfl⟩
      rw [← he]
      have e1 : 1 ≤ e ∧ e ≤ 30 := by omega
      rw [mk_Bench_ok e1.1 (by omega), Out.bind_ok, Out.bind_ok, Out.bind_ok]
      refine Out.yes_bind (row2_yes hD hK hp (by decide) (by decide) _) fun r51 ⟨_, hrl, hrm⟩ => ?_
      refine Out.yes_bind (Out.fold_yes (fun (pre : List (S × Int)) (q : Int × List Int × S_Bench × Bh) => BOk r e pre.length q) _ _ ⟨rfl, rfl, rfl, fun _ => Iff.rfl, Nat.le_refl _, Nat.le_refl _, Nat.le_refl _⟩ fun pre st post q hq hI => ?_) fun q hI => ?_
      · have hst := hrm st (by rw [hq]; simp)
        have hpl : pre.length < 9 := by have := congrArg List.length hq; rw [List.length_append, List.length_cons] at this; omega
        refine Out.yes_bind (R := fun q' => BOk r e (pre.length + 1) q') ?_ fun q' h' => Out.yes_ok (by rw [List.length_append]; exact h')
        obtain ⟨pl, cuts, b, bx⟩ := q
        obtain ⟨i1, i2, i3, i4, i5, i6, i7⟩ := hI
        dsimp only at i1 i2 i3 i4 i5 i6 i7 ⊢
        refine Out.yes_if (fun c => ?_) fun _ => Out.yes_ok ⟨i1, i2, i3, i4, by dsimp only; omega, by dsimp only; omega, by dsimp only; omega⟩
        rw [Bool.and_eq_true, decide_eq_true_eq, decide_eq_true_eq] at c
        rw [lay_ok (n := st.1) (k := st.2) (by rw [i1]; exact hK) (by rw [i1]; exact hst) (by rw [i3]; exact c.1) (by rw [i3, i2]; exact c.2) (by omega), Out.bind_ok]
        dsimp only
        refine Out.yes_bind (R := fun z => BOk r e (pre.length + 1) (b.scene.spot + st.2, z)) ?_ fun z hz => Out.yes_ok hz
        refine Out.yes_bind (next_yes (by decide) (by decide) _) fun r66 _ => ?_
        have hsum : (laidB b.rack_used b.scene [(st.1, st.2)]).spot = b.scene.spot + st.2 := by
          show b.scene.spot + (st.2 + 0) = _
          omega
        refine Out.yes_if (fun _ => ?_) fun _ => Out.yes_ok ⟨i1, i2, hsum, i4, by simp; omega, by dsimp only; omega, by show b.scene.cuts.length ≤ _; omega⟩
        obtain ⟨v, b', k1, k2, k3, k4, k5, k6, k7⟩ := scratch_ok (b := ⟨b.rack_used, b.last, laidB b.rack_used b.scene [(st.1, st.2)], b.marked, b.past ++ [([At.s z_lay, At.s st.1, At.i st.2], b.scene, b.marked, laidB b.rack_used b.scene [(st.1, st.2)], b.marked)], []⟩) (by simp; omega) (by show b.scene.cuts.length < _; omega)
        rw [k1, Out.bind_ok]
        refine Out.yes_guard (by show cuts.length < 16777216; omega) (Out.yes_let (Out.yes_ok ⟨k2.trans i1, k3.trans i2, k4.trans hsum, fun x => ?_, ?_, ?_, ?_⟩))
        · dsimp only
          rw [k5, List.mem_append, List.mem_singleton]
          show (x ∈ b.scene.cuts ∨ x = (laidB b.rack_used b.scene [(st.1, st.2)]).spot) ↔ _
          rw [hsum, i4]
        · dsimp only
          rw [k6]; simp; omega
        · dsimp only
          rw [List.length_append]; exact Nat.succ_le_succ i6
        · dsimp only
          have k7 : b'.scene.cuts.length ≤ b.scene.cuts.length + 1 := k7
          omega
      · obtain ⟨pl, cuts, b, bx⟩ := q
        obtain ⟨i1, i2, i3, i4, i5, i6, i7⟩ := hI
        dsimp only at i1 i2 i3 i4 i5 i6 i7 ⊢
        refine Out.yes_guard (by constructor <;> omega) (Out.yes_guard (by rw [rgI_length]; omega) ?_)
        have hsg : (fun (x74 : Int) => if (decide (x74 = pl)) = true then z____ else if (decide (x74 ∈ cuts)) = true then z_x else z_____) = sgn pl cuts := rfl
        rw [hsg]
        refine Out.yes_guard ?_ (Out.yes_let ?_)
        · have := sum_le (f := fun y : S => y.1.length) (B := 1) (xs := (rgI 0 (e + 1)).map (sgn pl cuts)) fun y hy => by
            obtain ⟨x, _, rfl⟩ := List.mem_map.mp hy
            rw [cl_len]; exact sgn_len _ _ x
          rw [List.length_map, rgI_length] at this
          rw [hnl, Nat.mul_zero]
          omega
        · refine Out.yes_bind (line_yes (b := b) (by omega) (by omega)) fun r81 h81 => ?_
          refine Out.yes_guard ⟨cl_ext ?_, rfl⟩ (Out.yes_ifF rfl (Out.yes_ok trivial))
          rw [h81, cl_join, cl_map, i2, i3]
          refine flat_eq fun x _ => ?_
          unfold sgn
          by_cases c : x ∈ cuts
          · rw [decide_eq_true c, decide_eq_true ((i4 x).mpr c)]
          · rw [decide_eq_false c, decide_eq_false fun z => c ((i4 x).mp z)]
  · cases t with
    | rt v => exact ht.elim
    | nx s4 =>
      dsimp only
      have hA : RulOk ⟨0, [0, 60]⟩ := ⟨by decide, rfl, by decide, by decide, by decide, by decide, by decide⟩
      have hA9 : RulOk ⟨9, [0, 60]⟩ := ⟨by decide, rfl, by decide, by decide, by decide, by decide, by decide⟩
      have hB : RulOk ⟨0, [0, 12, 61]⟩ := ⟨by decide, rfl, by decide, by decide, by decide, by decide, by decide⟩
      have hB9 : RulOk ⟨9, [0, 12, 61]⟩ := ⟨by decide, rfl, by decide, by decide, by decide, by decide, by decide⟩
      have e9 : ∀ ms, m_drawing ⟨9, ms⟩ = m_drawing ⟨0, ms⟩ := fun ms => rfl
      rw [mk_Ruler_ok hA9, Out.bind_ok, e9]
      refine Out.yes_bind (drawing_yes hA (len := 60) rfl) fun r84 h84 => ?_
      have hcat : cl (zcat (zcat z__ (zmul z___ (59 : Int))) z__) = [124] ++ List.replicate 59 45 ++ [124] := by rw [cl_cat, cl_cat, cl_mul, cl_bar]; rfl
      have h1 : r84 = zcat (zcat z__ (zmul z___ (59 : Int))) z__ := cl_ext (by rw [h84, hcat]; rfl)
      have hm : (zmul z___ (59 : Int)).1.length = 59 := by rw [cl_len, cl_mul]; rfl
      refine Out.yes_guard ⟨by rw [hdl]; decide, by decide, by decide⟩ (Out.yes_guard (by rw [hbl, hm]; decide) (Out.yes_guard (by rw [cl_len, cl_cat, cl_bar, cl_mul, hbl]; decide) ?_))
      rw [if_pos (decide_eq_true h1), mk_Ruler_ok hB9, Out.bind_ok, e9]
      refine Out.yes_bind (R := fun c => c = true) (Out.yes_bind (drawing_yes hB (len := 61) rfl) fun r90 h90 => Out.yes_ok ?_) fun c hc => Out.yes_ok hc
      refine decide_eq_true (cl_ext ?_)
      rw [h90]
      decide +kernel
local macro_rules | `(tactic| walk_at "vis") => `(tactic| first | exact .inl rfl | exact .inr (.inl rfl) | exact .inr (.inr rfl) | exact .inr rfl)
abbrev ns_Bench : List Str := ["rack_used", "last", "scene", "marked", "past", "later"]
abbrev fl_Bench (C_Ruler : Addr) (C_Rack : Addr) (C_Scene : Addr) (s : S_Bench) : List Fld := [.sh ((eRak C_Rack C_Ruler) s.rack_used), .sh (eI s.last), .sh ((eScn C_Scene) s.scene), .sh ((eD kZ (eScn C_Scene)) s.marked), .mu (List.map (eP5 (eT eAt) (eScn C_Scene) (eD kZ (eScn C_Scene)) (eScn C_Scene) (eD kZ (eScn C_Scene))) s.past), .mu (List.map (eP5 (eT eAt) (eScn C_Scene) (eD kZ (eScn C_Scene)) (eScn C_Scene) (eD kZ (eScn C_Scene))) s.later)]
structure Clo_Bench (K : PySem.W.Frag) (C : Addr) : Prop where
  cls : Cls K C
  n_rack_used : NoAttr K C "rack_used"
  n_last : NoAttr K C "last"
  n_scene : NoAttr K C "scene"
  n_marked : NoAttr K C "marked"
  n_past : NoAttr K C "past"
  n_later : NoAttr K C "later"
section
variable {P : Program} {w : World} {K : PySem.W.Frag} {mg : Str → Option Value} {base : Heap} {cx : Nat → Addr} {C_Ruler : Addr} {C_Rack : Addr} {C_Scene : Addr} {C_Bench : Addr}
/-- _law_mix, as a plain function -/
theorem ok_law_mix {f : Addr} {fd : FuncData} (F : Fun K "_law_mix" "_law_mix" s_law_mix f fd) (B : Bn mg) : FnOk P w K mg base (L2.CX P w) 3 f fd ["_law_script", "_law_seed"] (spD K (FMix m_law_mix)) := by
  refine def_ok F sc_law_mix (fun ds G post px h => ?_) (fun cdv A outer s H E F0 T hr ds G post px h tk hp => ?_)
  · obtain ⟨_, _, _, rfl, _⟩ := h; rfl
  obtain ⟨ns, seed, hlen, rfl, hq⟩ := h
  have nd := sc_law_mix.nd
  refine wb_env [.sh (.scr ns), .sh (.int seed), .no, .no] rfl ?_
  refine wb_cons (ws_set 2 nd rfl (.inl rfl) ?_)
  refine we_var 1 rfl (by walk_at "vis") rfl ?_
  refine ⟨lt_ rfl, _, rfl, ?_⟩
  refine wb_cons (ws_for (is := [3]) hp rfl ?_)
  refine wi_scr ?_
  refine we_var 0 rfl (by walk_at "vis") rfl ?_
  refine ⟨ns, _, rfl, fun k r G' => G' = G ∧ ∃ z, r = [.sh (.scr ns), .sh (.int seed), .sh (.int ((ns.take k).foldl (fun s n => (s * 48271 + n % 2147483629 + 1) % 2147483647) seed)), z], ⟨rfl, .no, rfl⟩, fun k d r3 G3 hk ⟨h1, z, h2⟩ => ?_, fun r3 G3 ⟨h1, z, h2⟩ => ?_⟩
  · subst h1 h2
    obtain ⟨n, hn, rfl⟩ := map_at hk
    refine wg_name 3 nd rfl (.inl rfl) (by decide) (lt_ rfl) ?_
    refine wb_cons (ws_set 2 nd rfl (.inl rfl) ?_)
    refine we_bin ?_
    refine we_t1 (x := "int") (id := "int") rfl B.int bt_int ?_
    refine we_bin ?_
    refine we_bin ?_
    refine we_bin ?_
    refine we_var 2 rfl (by walk_at "vis") rfl ?_
    refine we_int ?_
    refine ⟨_, _, .inl rfl, .inl rfl, ?_⟩
    refine opw_mul (.inr ⟨by decide, by decide⟩) ?_
    refine we_bin ?_
    refine we_t1 (x := "int") (id := "int") rfl B.int bt_int ?_
    refine we_var 3 rfl (by walk_at "vis") rfl ?_
    refine ⟨_, .inl rfl, ?_⟩
    refine c_int ?_
    refine we_int ?_
    refine ⟨_, _, .inl rfl, .inl rfl, ?_⟩
    refine opw_mod (by decide) ?_
    refine ⟨_, _, .inl rfl, .inl rfl, ?_⟩
    refine opw_add ?_
    refine we_int ?_
    refine ⟨_, _, .inl rfl, .inl rfl, ?_⟩
    refine opw_add ?_
    refine ⟨_, .inl rfl, ?_⟩
    refine c_int ?_
    refine we_int ?_
    refine ⟨_, _, .inl rfl, .inl rfl, ?_⟩
    refine opw_mod (by decide) ?_
    refine ⟨lt_ rfl, _, rfl, ?_⟩
    refine wb_nil ⟨rfl, .sh (.int n), ?_⟩
    rw [List.take_add_one, hn]
    show _ = [_, _, Sl.sh (.int (List.foldl _ _ (ns.take k ++ [n]))), _]
    rw [List.foldl_append]
    rfl
  · subst h1 h2
    rw [List.length_map, List.take_length]
    refine wb_cons (ws_ret ?_)
    refine we_open ?_
    refine we_lst ?_
    refine wa_cons ?_
    refine we_var 2 rfl (by walk_at "vis") rfl ?_
    refine ⟨_, _, rfl, ?_⟩
    refine wa_cons ?_
    refine we_open ?_
    refine we_t1 (x := "list") (id := "list") rfl B.list bt_list ?_
    refine we_var 0 rfl (by walk_at "vis") rfl ?_
    refine ⟨_, .inl rfl, ?_⟩
    refine c_listR ?_
    refine ⟨_, rfl, fun g hg => ?_⟩
    refine ⟨_, _, rfl, ?_⟩
    refine wa_cons ?_
    refine we_int ?_
    refine ⟨_, _, rfl, ?_⟩
    refine wa_nil ?_
    refine ⟨lt_ rfl, ?_⟩
    refine ⟨_, rfl, fun b hb => ?_⟩
    have hne : g ≠ b := fun z => by subst z; rw [updG_same] at hb; cases hb
    exact ⟨_, rfl, hq b g hne (by rwa [updG_ne (Ne.symm hne)] at hb) hg⟩
/-- _law_next, as a plain function -/
theorem ok_law_next {f : Addr} {fd : FuncData} (F : Fun K "_law_next" "_law_next" s_law_next f fd) (B : Bn mg) : FnOk P w K mg base (L2.CX P w) 3 f fd ["_law_h", "_law_limit"] (spD K (FBh (A := Int) (R := Int) (fun a => [eI a]) (fun v => .sh (eI v)) (fun a => m_law_next a))) := by
  refine def_ok F sc_law_next (fun ds G post px h => ?_) (fun cdv A outer s H E F0 T hr ds G post px h tk hp => ?_)
  · obtain ⟨_, _, _, _, _, _, rfl, _⟩ := h; rfl
  obtain ⟨m, G0, b, g, ⟨⟨ns, st, ix⟩, hlen⟩, hne, rfl, rfl, h⟩ := h
  unfold m_law_next at h
  dsimp only at h hlen
  obtain ⟨⟨hm0, hm1⟩, h⟩ := Out.gd h
  obtain ⟨cell, hcell, h⟩ := Out.gt h
  have nd := sc_law_next.nd
  refine wb_env [.sh (.adr b), .sh (.int m), .no] rfl ?_
  refine wb_cons (ws_set 2 nd rfl (.inl rfl) ?_)
  refine we_ix (fun _ _ => rfl) ?_
  refine we_bin ?_
  refine we_ix (fun _ _ => rfl) ?_
  refine we_var 0 rfl (by walk_at "vis") rfl ?_
  refine we_int ?_
  refine ⟨_, _, .inr ⟨b, rfl, bxH_b⟩, .inl rfl, ?_⟩
  refine ixw_lst (d := .adr g) rfl ?_
  refine we_lst ?_
  refine wa_cons ?_
  refine we_int ?_
  refine ⟨_, _, rfl, ?_⟩
  refine wa_nil ?_
  refine ⟨lt_ rfl, ?_⟩
  refine ⟨_, _, .inr ⟨g, rfl, bxH_g hne⟩, .inl rfl, ?_⟩
  refine t_cat (f := eI) ns [(0 : Int)] (by show _ ≤ 16777216; simp; omega) ?_
  refine we_bin ?_
  refine we_t1 (x := "int") (id := "int") rfl B.int bt_int ?_
  refine we_ix (fun _ _ => rfl) ?_
  refine we_var 0 rfl (by walk_at "vis") rfl ?_
  refine we_int ?_
  refine ⟨_, _, .inr ⟨b, rfl, bxH_b⟩, .inl rfl, ?_⟩
  refine ixw_lst (d := .int ix) rfl ?_
  refine ⟨_, .inl rfl, ?_⟩
  refine c_int ?_
  refine we_b2 (x := "max") (id := "max") rfl B.max bt_max ?_
  refine we_int ?_
  refine we_b1 (x := "len") (id := "len") rfl B.len bt_len ?_
  refine we_ix (fun _ _ => rfl) ?_
  refine we_var 0 rfl (by walk_at "vis") rfl ?_
  refine we_int ?_
  refine ⟨_, _, .inr ⟨b, rfl, bxH_b⟩, .inl rfl, ?_⟩
  refine ixw_lst (d := .adr g) rfl ?_
  refine ⟨_, .inr ⟨g, rfl, bxH_g hne⟩, ?_⟩
  refine t_len (f := eI) ns ?_
  refine ⟨_, _, .inl rfl, .inl rfl, ?_⟩
  refine c_max2 rfl ?_
  refine ⟨_, _, .inl rfl, .inl rfl, ?_⟩
  refine opw_mod (by split <;> omega) ?_
  refine ⟨_, _, .inl rfl, .inl rfl, ?_⟩
  refine t_ix (f := eI) (xs := ns ++ [0]) (x := cell) hcell ?_
  refine ⟨lt_ rfl, _, rfl, ?_⟩
  refine wb_env [.sh (.adr b), .sh (.int m), .sh (.int cell)] rfl ?_
  refine wb_cons (ws_if ?_)
  refine wt_cmp (nomark _) ?_
  refine we_var 2 rfl (by walk_at "vis") rfl ?_
  refine we_bin ?_
  refine we_int ?_
  refine we_int ?_
  refine ⟨_, _, .inl rfl, .inl rfl, ?_⟩
  refine opw_pow (⟨by decide, by decide, by decide⟩) ?_
  refine ⟨_, _, .inl rfl, .inl rfl, ?_⟩
  refine opw_ge ?_
  refine ⟨_, rfl, fun hd => ?_, fun hd => ?_⟩
  · have hc : 1000000000000000000 ≤ cell := by
      have := of_decide_eq_true hd
      exact this
    rw [if_pos hc] at h
    obtain ⟨j, hj, h⟩ := Out.gt h
    obtain ⟨hpos, h⟩ := Out.gd h
    refine wb_cons (ws_setG ?_)
    refine we_bin ?_
    refine we_var 2 rfl (by walk_at "vis") rfl ?_
    refine we_var 1 rfl (by walk_at "vis") rfl ?_
    refine ⟨_, _, .inl rfl, .inl rfl, ?_⟩
    refine opw_fdivE ⟨hm0, hm1⟩ ?_
    refine ⟨_, _, rfl, ?_⟩
    refine we_ix (fun _ _ => rfl) ?_
    refine we_var 0 rfl (by walk_at "vis") rfl ?_
    refine we_int ?_
    refine ⟨_, _, .inr ⟨b, rfl, bxH_b⟩, .inl rfl, ?_⟩
    refine ixw_lst (d := .adr g) rfl ?_
    refine ⟨g, rfl, ?_⟩
    refine we_bin ?_
    refine we_t1 (x := "int") (id := "int") rfl B.int bt_int ?_
    refine we_ix (fun _ _ => rfl) ?_
    refine we_var 0 rfl (by walk_at "vis") rfl ?_
    refine we_int ?_
    refine ⟨_, _, .inr ⟨b, rfl, bxH_b⟩, .inl rfl, ?_⟩
    refine ixw_lst (d := .int ix) rfl ?_
    refine ⟨_, .inl rfl, ?_⟩
    refine c_int ?_
    refine we_b1 (x := "len") (id := "len") rfl B.len bt_len ?_
    refine we_ix (fun _ _ => rfl) ?_
    refine we_var 0 rfl (by walk_at "vis") rfl ?_
    refine we_int ?_
    refine ⟨_, _, .inr ⟨b, rfl, bxH_b⟩, .inl rfl, ?_⟩
    refine ixw_lst (d := .adr g) rfl ?_
    refine ⟨_, .inr ⟨g, rfl, bxH_g hne⟩, ?_⟩
    refine t_len (f := eI) ns ?_
    refine ⟨_, _, .inl rfl, .inl rfl, ?_⟩
    refine opw_mod hpos ?_
    refine ⟨ix % ((ns.length : Nat) : Int), _, j, rfl, bxH_g hne, (by rw [List.length_map]; exact hj), ?_⟩
    dsimp only
    rw [show (ns.map D.int).set j (D.int (cell / m)) = (ns.set j (cell / m)).map D.int from by rw [List.map_set], bxH_setG (by rw [List.length_set]; exact hlen) hne]
    refine wb_cons (ws_ret ?_)
    refine we_bin ?_
    refine we_t1 (x := "int") (id := "int") rfl B.int bt_int ?_
    refine we_var 2 rfl (by walk_at "vis") rfl ?_
    refine ⟨_, .inl rfl, ?_⟩
    refine c_int ?_
    refine we_var 1 rfl (by walk_at "vis") rfl ?_
    refine ⟨_, _, .inl rfl, .inl rfl, ?_⟩
    refine opw_mod hm0 ?_
    exact ⟨_, rfl, h⟩
  · have hc : ¬ 1000000000000000000 ≤ cell := by
      have := of_decide_eq_false hd
      exact this
    rw [if_neg hc] at h
    refine wb_nil ?_
    refine wb_cons (ws_setG ?_)
    refine we_bin ?_
    refine we_t1 (x := "int") (id := "int") rfl B.int bt_int ?_
    refine we_bin ?_
    refine we_bin ?_
    refine we_bin ?_
    refine we_ix (fun _ _ => rfl) ?_
    refine we_var 0 rfl (by walk_at "vis") rfl ?_
    refine we_int ?_
    refine ⟨_, _, .inr ⟨b, rfl, bxH_b⟩, .inl rfl, ?_⟩
    refine ixw_lst (d := .int st) rfl ?_
    refine we_int ?_
    refine ⟨_, _, .inl rfl, .inl rfl, ?_⟩
    refine opw_mul (.inr ⟨by decide, by decide⟩) ?_
    refine we_bin ?_
    refine we_var 2 rfl (by walk_at "vis") rfl ?_
    refine we_int ?_
    refine ⟨_, _, .inl rfl, .inl rfl, ?_⟩
    refine opw_mul (.inr ⟨by decide, by decide⟩) ?_
    refine ⟨_, _, .inl rfl, .inl rfl, ?_⟩
    refine opw_add ?_
    refine we_int ?_
    refine ⟨_, _, .inl rfl, .inl rfl, ?_⟩
    refine opw_add ?_
    refine ⟨_, .inl rfl, ?_⟩
    refine c_int ?_
    refine we_int ?_
    refine ⟨_, _, .inl rfl, .inl rfl, ?_⟩
    refine opw_mod (by decide) ?_
    refine ⟨_, _, rfl, ?_⟩
    refine we_var 0 rfl (by walk_at "vis") rfl ?_
    refine ⟨b, rfl, ?_⟩
    refine we_int ?_
    refine ⟨0, _, 0, rfl, bxH_b, rfl, ?_⟩
    dsimp only
    rw [show ([D.int st, D.adr g, D.int ix].set 0 (D.int ((st * 48271 + cell * 69621 + 11) % 2147483647))) = [D.int ((st * 48271 + cell * 69621 + 11) % 2147483647), D.adr g, D.int ix] from rfl, bxH_setB]
    refine wb_cons (ws_setG ?_)
    refine we_bin ?_
    refine we_ix (fun _ _ => rfl) ?_
    refine we_var 0 rfl (by walk_at "vis") rfl ?_
    refine we_int ?_
    refine ⟨_, _, .inr ⟨b, rfl, bxH_b⟩, .inl rfl, ?_⟩
    refine ixw_lst (d := .int ix) rfl ?_
    refine we_int ?_
    refine ⟨_, _, .inl rfl, .inl rfl, ?_⟩
    refine opw_add ?_
    refine ⟨_, _, rfl, ?_⟩
    refine we_var 0 rfl (by walk_at "vis") rfl ?_
    refine ⟨b, rfl, ?_⟩
    refine we_int ?_
    refine ⟨2, _, 2, rfl, bxH_b, rfl, ?_⟩
    dsimp only
    rw [show ([D.int ((st * 48271 + cell * 69621 + 11) % 2147483647), D.adr g, D.int ix].set 2 (D.int (ix + 1))) = [D.int ((st * 48271 + cell * 69621 + 11) % 2147483647), D.adr g, D.int (ix + 1)] from rfl, bxH_setB]
    refine wb_cons (ws_ret ?_)
    refine we_bin ?_
    refine we_t1 (x := "int") (id := "int") rfl B.int bt_int ?_
    refine we_bin ?_
    refine we_ix (fun _ _ => rfl) ?_
    refine we_var 0 rfl (by walk_at "vis") rfl ?_
    refine we_int ?_
    refine ⟨_, _, .inr ⟨b, rfl, bxH_b⟩, .inl rfl, ?_⟩
    refine ixw_lst (d := .int ((st * 48271 + cell * 69621 + 11) % 2147483647)) rfl ?_
    refine we_int ?_
    refine ⟨_, _, .inl rfl, .inl rfl, ?_⟩
    refine opw_fdiv ⟨by decide, by decide⟩ ?_
    refine ⟨_, .inl rfl, ?_⟩
    refine c_int ?_
    refine we_var 1 rfl (by walk_at "vis") rfl ?_
    refine ⟨_, _, .inl rfl, .inl rfl, ?_⟩
    refine opw_mod hm0 ?_
    exact ⟨_, rfl, h⟩
theorem ok_law_alike {f : Addr} {fd : FuncData} {k n : Nat} (F : Fun K "_law_alike" "_law_alike" s_law_alike f fd) (B : Bn mg) (c_law_alike : 0 < n → Cal P w K mg base "_law_alike" k ["_law_found", "_law_due"] (alikeF (n - 1))) : FnOk P w K mg base (L2.CX P w) (k + 1) f fd ["_law_found", "_law_due"] (spD K (alikeF n)) := by
  refine def_ok F sc_law_alike (fun ds G post px h => ?_) (fun cdv A outer s H E F0 T hr ds G post px h tk hp => ?_)
  · obtain ⟨d, rfl, _⟩ := h; rfl
  obtain ⟨d, rfl, hok, hq⟩ := h
  have nd := sc_law_alike.nd
  refine wb_env [.sh d, .sh d, .no] rfl ?_
  cases d with
  | non =>
    refine wb_cons (ws_if ?_)
    refine wt_val (fun _ => rfl) ?_
    refine we_isi rfl B.isinstance bt_isinstance rfl B.dict bt_dict ?_
    refine we_var 1 rfl (by walk_at "vis") rfl ?_
    refine ⟨_, _, _, .inl rfl, rfl, kt_NoneType_dict, ?_⟩
    refine ⟨_, rfl, fun hd => absurd (show false = true from hd) Bool.false_ne_true, fun _ => ?_⟩
    refine wb_nil ?_
    refine wb_cons (ws_if ?_)
    refine wt_val (fun _ => rfl) ?_
    refine we_isiT rfl B.isinstance bt_isinstance rfl B.tuple bt_tuple rfl B.list bt_list ?_
    refine we_var 1 rfl (by walk_at "vis") rfl ?_
    refine ⟨_, _, false, rfl, rfl, by unfold PySem.W.kitAny; rw [kt_NoneType_tuple]; unfold PySem.W.kitAny; rw [kt_NoneType_list]; rfl, ?_⟩
    refine ⟨_, rfl, fun hd => absurd (show false = true from hd) Bool.false_ne_true, fun _ => ?_⟩
    refine wb_nil ?_
    refine wb_cons (ws_if ?_)
    refine wt_w (ww_or ?_)
    refine wt_cmp (nomark _) ?_
    refine we_var 1 rfl (by walk_at "vis") rfl ?_
    refine we_non ?_
    refine ⟨_, _, .inl rfl, .inl rfl, ?_⟩
    refine opw_isN ?_
    refine ⟨_, rfl, fun hd => absurd (show true = false from hd) (by decide), fun _ => ?_⟩
    refine ⟨fun _ => ?_, fun hd => absurd (show true = false from hd) (by decide)⟩
    refine wb_cons (ws_ret ?_)
    refine we_and ?_
    refine we_cmp (nomark _) ?_
    refine we_var 0 rfl (by walk_at "vis") rfl ?_
    refine we_var 1 rfl (by walk_at "vis") rfl ?_
    refine ⟨_, _, .inl rfl, .inl rfl, ?_⟩
    refine opw_eqD (n := 0) hr.units trivial trivial (by decide) ?_
    refine ⟨_, rfl, fun _ => ?_, fun hc => absurd hc (by decide)⟩
    refine we_one ?_
    refine we_cmp (nomark _) ?_
    refine we_isi rfl B.isinstance bt_isinstance rfl B.str bt_str ?_
    refine we_var 0 rfl (by walk_at "vis") rfl ?_
    refine ⟨_, _, _, .inl rfl, rfl, kt_NoneType_str, ?_⟩
    refine we_isi rfl B.isinstance bt_isinstance rfl B.str bt_str ?_
    refine we_var 1 rfl (by walk_at "vis") rfl ?_
    refine ⟨_, _, _, .inl rfl, rfl, kt_NoneType_str, ?_⟩
    refine ⟨_, _, .inl rfl, .inl rfl, ?_⟩
    refine opw_eqB ?_
    exact ⟨_, rfl, hq⟩
  | bl b =>
    refine wb_cons (ws_if ?_)
    refine wt_val (fun _ => rfl) ?_
    refine we_isi rfl B.isinstance bt_isinstance rfl B.dict bt_dict ?_
    refine we_var 1 rfl (by walk_at "vis") rfl ?_
    refine ⟨_, _, _, .inl rfl, rfl, kt_bool_dict, ?_⟩
    refine ⟨_, rfl, fun hd => absurd (show false = true from hd) Bool.false_ne_true, fun _ => ?_⟩
    refine wb_nil ?_
    refine wb_cons (ws_if ?_)
    refine wt_val (fun _ => rfl) ?_
    refine we_isiT rfl B.isinstance bt_isinstance rfl B.tuple bt_tuple rfl B.list bt_list ?_
    refine we_var 1 rfl (by walk_at "vis") rfl ?_
    refine ⟨_, _, false, rfl, rfl, by unfold PySem.W.kitAny; rw [kt_bool_tuple]; unfold PySem.W.kitAny; rw [kt_bool_list]; rfl, ?_⟩
    refine ⟨_, rfl, fun hd => absurd (show false = true from hd) Bool.false_ne_true, fun _ => ?_⟩
    refine wb_nil ?_
    refine wb_cons (ws_if ?_)
    refine wt_w (ww_or ?_)
    refine wt_cmp (nomark _) ?_
    refine we_var 1 rfl (by walk_at "vis") rfl ?_
    refine we_non ?_
    refine ⟨_, _, .inl rfl, .inl rfl, ?_⟩
    refine opw_isN ?_
    refine ⟨_, rfl, fun _ => ?_, fun hd => absurd (show false = true from hd) Bool.false_ne_true⟩
    refine ww_or1 ?_
    refine wt_val (fun _ => rfl) ?_
    refine we_isi rfl B.isinstance bt_isinstance rfl B.str bt_str ?_
    refine we_var 1 rfl (by walk_at "vis") rfl ?_
    refine ⟨_, _, _, .inl rfl, rfl, kt_bool_str, ?_⟩
    refine ⟨_, rfl, fun hd => absurd (show false = true from hd) Bool.false_ne_true, fun _ => ?_⟩
    refine wb_nil ?_
    refine wb_cons (ws_ret ?_)
    refine we_and ?_
    refine we_isi rfl B.isinstance bt_isinstance rfl B.int bt_int ?_
    refine we_var 0 rfl (by walk_at "vis") rfl ?_
    refine ⟨_, _, _, .inl rfl, rfl, kt_bool_int, ?_⟩
    refine ⟨_, rfl, fun _ => ?_, fun hc => absurd hc (by decide)⟩
    refine we_and ?_
    refine we_cmp (nomark _) ?_
    refine we_isi rfl B.isinstance bt_isinstance rfl B.bool bt_bool ?_
    refine we_var 0 rfl (by walk_at "vis") rfl ?_
    refine ⟨_, _, _, .inl rfl, rfl, kt_bool_bool, ?_⟩
    refine we_isi rfl B.isinstance bt_isinstance rfl B.bool bt_bool ?_
    refine we_var 1 rfl (by walk_at "vis") rfl ?_
    refine ⟨_, _, _, .inl rfl, rfl, kt_bool_bool, ?_⟩
    refine ⟨_, _, .inl rfl, .inl rfl, ?_⟩
    refine opw_eqB ?_
    refine ⟨_, rfl, fun _ => ?_, fun hc => absurd hc (by decide)⟩
    refine we_one ?_
    refine we_cmp (nomark _) ?_
    refine we_var 0 rfl (by walk_at "vis") rfl ?_
    refine we_var 1 rfl (by walk_at "vis") rfl ?_
    refine ⟨_, _, .inl rfl, .inl rfl, ?_⟩
    refine opw_eqB ?_
    refine ⟨_, rfl, ?_⟩
    rw [beq_self_eq_true]
    exact hq
  | int i =>
    refine wb_cons (ws_if ?_)
    refine wt_val (fun _ => rfl) ?_
    refine we_isi rfl B.isinstance bt_isinstance rfl B.dict bt_dict ?_
    refine we_var 1 rfl (by walk_at "vis") rfl ?_
    refine ⟨_, _, _, .inl rfl, rfl, kt_int_dict, ?_⟩
    refine ⟨_, rfl, fun hd => absurd (show false = true from hd) Bool.false_ne_true, fun _ => ?_⟩
    refine wb_nil ?_
    refine wb_cons (ws_if ?_)
    refine wt_val (fun _ => rfl) ?_
    refine we_isiT rfl B.isinstance bt_isinstance rfl B.tuple bt_tuple rfl B.list bt_list ?_
    refine we_var 1 rfl (by walk_at "vis") rfl ?_
    refine ⟨_, _, false, rfl, rfl, by unfold PySem.W.kitAny; rw [kt_int_tuple]; unfold PySem.W.kitAny; rw [kt_int_list]; rfl, ?_⟩
    refine ⟨_, rfl, fun hd => absurd (show false = true from hd) Bool.false_ne_true, fun _ => ?_⟩
    refine wb_nil ?_
    refine wb_cons (ws_if ?_)
    refine wt_w (ww_or ?_)
    refine wt_cmp (nomark _) ?_
    refine we_var 1 rfl (by walk_at "vis") rfl ?_
    refine we_non ?_
    refine ⟨_, _, .inl rfl, .inl rfl, ?_⟩
    refine opw_isN ?_
    refine ⟨_, rfl, fun _ => ?_, fun hd => absurd (show false = true from hd) Bool.false_ne_true⟩
    refine ww_or1 ?_
    refine wt_val (fun _ => rfl) ?_
    refine we_isi rfl B.isinstance bt_isinstance rfl B.str bt_str ?_
    refine we_var 1 rfl (by walk_at "vis") rfl ?_
    refine ⟨_, _, _, .inl rfl, rfl, kt_int_str, ?_⟩
    refine ⟨_, rfl, fun hd => absurd (show false = true from hd) Bool.false_ne_true, fun _ => ?_⟩
    refine wb_nil ?_
    refine wb_cons (ws_ret ?_)
    refine we_and ?_
    refine we_isi rfl B.isinstance bt_isinstance rfl B.int bt_int ?_
    refine we_var 0 rfl (by walk_at "vis") rfl ?_
    refine ⟨_, _, _, .inl rfl, rfl, kt_int_int, ?_⟩
    refine ⟨_, rfl, fun _ => ?_, fun hc => absurd hc (by decide)⟩
    refine we_and ?_
    refine we_cmp (nomark _) ?_
    refine we_isi rfl B.isinstance bt_isinstance rfl B.bool bt_bool ?_
    refine we_var 0 rfl (by walk_at "vis") rfl ?_
    refine ⟨_, _, _, .inl rfl, rfl, kt_int_bool, ?_⟩
    refine we_isi rfl B.isinstance bt_isinstance rfl B.bool bt_bool ?_
    refine we_var 1 rfl (by walk_at "vis") rfl ?_
    refine ⟨_, _, _, .inl rfl, rfl, kt_int_bool, ?_⟩
    refine ⟨_, _, .inl rfl, .inl rfl, ?_⟩
    refine opw_eqB ?_
    refine ⟨_, rfl, fun _ => ?_, fun hc => absurd hc (by decide)⟩
    refine we_one ?_
    refine we_cmp (nomark _) ?_
    refine we_var 0 rfl (by walk_at "vis") rfl ?_
    refine we_var 1 rfl (by walk_at "vis") rfl ?_
    refine ⟨_, _, .inl rfl, .inl rfl, ?_⟩
    refine opw_eqI ?_
    refine ⟨_, rfl, ?_⟩
    rw [decide_eq_true rfl]
    exact hq
  | str x =>
    refine wb_cons (ws_if ?_)
    refine wt_val (fun _ => rfl) ?_
    refine we_isi rfl B.isinstance bt_isinstance rfl B.dict bt_dict ?_
    refine we_var 1 rfl (by walk_at "vis") rfl ?_
    refine ⟨_, _, _, .inl rfl, rfl, kt_str_dict, ?_⟩
    refine ⟨_, rfl, fun hd => absurd (show false = true from hd) Bool.false_ne_true, fun _ => ?_⟩
    refine wb_nil ?_
    refine wb_cons (ws_if ?_)
    refine wt_val (fun _ => rfl) ?_
    refine we_isiT rfl B.isinstance bt_isinstance rfl B.tuple bt_tuple rfl B.list bt_list ?_
    refine we_var 1 rfl (by walk_at "vis") rfl ?_
    refine ⟨_, _, false, rfl, rfl, by unfold PySem.W.kitAny; rw [kt_str_tuple]; unfold PySem.W.kitAny; rw [kt_str_list]; rfl, ?_⟩
    refine ⟨_, rfl, fun hd => absurd (show false = true from hd) Bool.false_ne_true, fun _ => ?_⟩
    refine wb_nil ?_
    refine wb_cons (ws_if ?_)
    refine wt_w (ww_or ?_)
    refine wt_cmp (nomark _) ?_
    refine we_var 1 rfl (by walk_at "vis") rfl ?_
    refine we_non ?_
    refine ⟨_, _, .inl rfl, .inl rfl, ?_⟩
    refine opw_isN ?_
    refine ⟨_, rfl, fun _ => ?_, fun hd => absurd (show false = true from hd) Bool.false_ne_true⟩
    refine ww_or1 ?_
    refine wt_val (fun _ => rfl) ?_
    refine we_isi rfl B.isinstance bt_isinstance rfl B.str bt_str ?_
    refine we_var 1 rfl (by walk_at "vis") rfl ?_
    refine ⟨_, _, _, .inl rfl, rfl, kt_str_str, ?_⟩
    refine ⟨_, rfl, fun _ => ?_, fun hd => absurd (show true = false from hd) (by decide)⟩
    refine wb_cons (ws_ret ?_)
    refine we_and ?_
    refine we_cmp (nomark _) ?_
    refine we_var 0 rfl (by walk_at "vis") rfl ?_
    refine we_var 1 rfl (by walk_at "vis") rfl ?_
    refine ⟨_, _, .inl rfl, .inl rfl, ?_⟩
    refine opw_eqS ?_
    refine ⟨_, rfl, ?_, ?_⟩
    rotate_left
    · intro hc; rw [decide_eq_true rfl] at hc; exact absurd hc (by decide)
    intro _
    refine we_one ?_
    refine we_cmp (nomark _) ?_
    refine we_isi rfl B.isinstance bt_isinstance rfl B.str bt_str ?_
    refine we_var 0 rfl (by walk_at "vis") rfl ?_
    refine ⟨_, _, _, .inl rfl, rfl, kt_str_str, ?_⟩
    refine we_isi rfl B.isinstance bt_isinstance rfl B.str bt_str ?_
    refine we_var 1 rfl (by walk_at "vis") rfl ?_
    refine ⟨_, _, _, .inl rfl, rfl, kt_str_str, ?_⟩
    refine ⟨_, _, .inl rfl, .inl rfl, ?_⟩
    refine opw_eqB ?_
    exact ⟨_, rfl, hq⟩
  | tup ds =>
    cases n with
    | zero => exact absurd (show false = true from hok) Bool.false_ne_true
    | succ n =>
    replace c_law_alike := c_law_alike (Nat.succ_pos n)
    replace hok : ds.length ≤ LIM ∧ ∀ d ∈ ds, alB n d = true := by have h2 : (decide (ds.length ≤ LIM) && ds.all (alB n)) = true := hok; rw [Bool.and_eq_true, decide_eq_true_eq, List.all_eq_true] at h2; exact h2
    have hlim : ds.length ≤ LIM := hok.1
    have hlim2 : (ds.length : Int) ≤ 16777216 := by have := hlim; unfold LIM at this; omega
    refine wb_cons (ws_if ?_)
    refine wt_val (fun _ => rfl) ?_
    refine we_isi rfl B.isinstance bt_isinstance rfl B.dict bt_dict ?_
    refine we_var 1 rfl (by walk_at "vis") rfl ?_
    refine ⟨_, _, _, .inl rfl, rfl, kt_tuple_dict, ?_⟩
    refine ⟨_, rfl, fun hd => absurd (show false = true from hd) Bool.false_ne_true, fun _ => ?_⟩
    refine wb_nil ?_
    refine wb_cons (ws_if ?_)
    refine wt_val (fun _ => rfl) ?_
    refine we_isiT rfl B.isinstance bt_isinstance rfl B.tuple bt_tuple rfl B.list bt_list ?_
    refine we_var 1 rfl (by walk_at "vis") rfl ?_
    refine ⟨_, _, true, rfl, rfl, by unfold PySem.W.kitAny; rw [kt_tuple_tuple], ?_⟩
    refine ⟨_, rfl, fun _ => ?_, fun hd => absurd (show true = false from hd) (by decide)⟩
    refine wb_cons (ws_if ?_)
    refine wt_w (ww_or ?_)
    refine wt_not ?_
    refine wt_val (fun _ => rfl) ?_
    refine we_isiT rfl B.isinstance bt_isinstance rfl B.tuple bt_tuple rfl B.list bt_list ?_
    refine we_var 0 rfl (by walk_at "vis") rfl ?_
    refine ⟨_, _, true, rfl, rfl, by unfold PySem.W.kitAny; rw [kt_tuple_tuple], ?_⟩
    refine ⟨_, rfl, ?_⟩
    refine ⟨fun _ => ?_, fun hd => absurd (show false = true from hd) Bool.false_ne_true⟩
    refine ww_or1 ?_
    refine wt_cmp (nomark _) ?_
    refine we_isi rfl B.isinstance bt_isinstance rfl B.list bt_list ?_
    refine we_var 0 rfl (by walk_at "vis") rfl ?_
    refine ⟨_, _, _, .inl rfl, rfl, kt_tuple_list, ?_⟩
    refine we_isi rfl B.isinstance bt_isinstance rfl B.list bt_list ?_
    refine we_var 1 rfl (by walk_at "vis") rfl ?_
    refine ⟨_, _, _, .inl rfl, rfl, kt_tuple_list, ?_⟩
    refine ⟨_, _, .inl rfl, .inl rfl, ?_⟩
    refine opw_neB ?_
    refine ⟨_, rfl, fun hd => absurd (show false = true from hd) Bool.false_ne_true, fun _ => ?_⟩
    refine wb_nil ?_
    refine wb_cons (ws_if ?_)
    refine wt_cmp (nomark _) ?_
    refine we_b1 (x := "len") (id := "len") rfl B.len bt_len ?_
    refine we_var 0 rfl (by walk_at "vis") rfl ?_
    refine ⟨_, .inl rfl, ?_⟩
    refine c_lenT ?_
    refine we_b1 (x := "len") (id := "len") rfl B.len bt_len ?_
    refine we_var 1 rfl (by walk_at "vis") rfl ?_
    refine ⟨_, .inl rfl, ?_⟩
    refine c_lenT ?_
    refine ⟨_, _, .inl rfl, .inl rfl, ?_⟩
    refine opw_neI ?_
    refine ⟨_, rfl, fun hd => absurd hd (by simp), fun _ => ?_⟩
    refine wb_nil ?_
    refine wb_cons (ws_ret ?_)
    refine we_cmp (nomark _) ?_
    refine we_lcQ [("_law_k", 2)] rfl nd (blkOk_by (by rfl)) (lcS_preP (γ := List Int) (σT := Unit) [("_law_k", 2)] [.sh (.tup ds), .sh (.tup ds), .no] (fun _ => G) (en := eI) eI ?_)
    refine wi_rng1 rfl B.range ?_
    refine we_b1 (x := "len") (id := "len") rfl B.len bt_len ?_
    refine we_var 1 rfl (by walk_at "vis") rfl ?_
    refine ⟨_, .inl rfl, ?_⟩
    refine c_lenT ?_
    refine ⟨_, rfl, ⟨by omega, by omega⟩, ?_⟩
    refine ⟨rgI 0 (ds.length : Int), (), fun _ x => if 0 ≤ x ∧ x < (ds.length : Int) then .ok (none, ()) else .no, fun q => .ok q.1, fun l => l = [], fun _ => False, rfl, by rw [rgI_length]; have := hlim; omega, Wk.refl _, rfl, ?_, fun s x Q' h => ?_, fun q h => ?_⟩
    · have e : Out.compS (fun (_ : Unit) (x : Int) => if 0 ≤ x ∧ x < (ds.length : Int) then (.ok (none, ()) : Out (Option Int × Unit)) else .no) (rgI 0 (ds.length : Int)) [] () = .ok ([], ()) := compS_none _ _ fun x hx => by rw [mem_rgI] at hx; exact if_pos hx
      rw [e]
      exact rfl
    · by_cases hx : 0 ≤ x ∧ x < (ds.length : Int)
      · dsimp only at h
        rw [if_pos hx] at h
        obtain ⟨j, rfl⟩ := Int.eq_ofNat_of_zero_le hx.1
        have hj2 : j < ds.length := by omega
        have hjd : ds[j]? = some ds[j] := List.getElem?_eq_getElem hj2
        rintro Y ⟨s1, H1, C1, cl, fp, rfl⟩
        refine wg_name 2 nd rfl (by walk_at "vis") (by decide) (lt_ rfl) ?_
        rintro Y ⟨s1, H1, C1, cl, fp, rfl⟩
        refine wt_not ?_
        refine wt_val (fun _ => rfl) ?_
        refine we_cal (BlkX.tk ⟨_, _, _, _, _, rfl⟩) c_law_alike hr rfl ?_
        refine wa_cons ?_
        refine we_ix (fun _ _ => rfl) ?_
        refine we_var 0 rfl (by walk_at "vis") rfl ?_
        refine we_var 2 rfl (by walk_at "vis") rfl ?_
        refine ⟨_, _, .inl rfl, .inl rfl, ?_⟩
        refine ixw_tup (atD_nat hjd) ?_
        refine ⟨_, _, rfl, ?_⟩
        refine wa_cons ?_
        refine we_ix (fun _ _ => rfl) ?_
        refine we_var 1 rfl (by walk_at "vis") rfl ?_
        refine we_var 2 rfl (by walk_at "vis") rfl ?_
        refine ⟨_, _, .inl rfl, .inl rfl, ?_⟩
        refine ixw_tup (atD_nat hjd) ?_
        refine ⟨_, _, rfl, ?_⟩
        refine wa_nil ?_
        refine ⟨ds[j], rfl, hok.2 _ (List.getElem_mem hj2), ?_⟩
        refine ⟨_, rfl, ?_⟩
        exact ⟨fun hd => absurd (show false = true from hd) Bool.false_ne_true, fun _ => ⟨(), Wk.refl _, rfl, h⟩⟩
      · dsimp only at h; rw [if_neg hx] at h; exact h.elim
    · have hq1 : q.1 = [] := h
      rw [hq1]
      refine we_lst ?_
      refine wa_nil ?_
      refine ⟨by decide, ?_⟩
      refine ⟨_, _, .inl rfl, .inl rfl, ?_⟩
      refine opw_eqC (eqc_lst eqc_int) hr.units ([] : List Int) [] ?_
      exact ⟨_, rfl, hq⟩
  | lst ds =>
    cases n with
    | zero => exact absurd (show false = true from hok) Bool.false_ne_true
    | succ n =>
    replace c_law_alike := c_law_alike (Nat.succ_pos n)
    replace hok : ds.length ≤ LIM ∧ ∀ d ∈ ds, alB n d = true := by have h2 : (decide (ds.length ≤ LIM) && ds.all (alB n)) = true := hok; rw [Bool.and_eq_true, decide_eq_true_eq, List.all_eq_true] at h2; exact h2
    have hlim : ds.length ≤ LIM := hok.1
    have hlim2 : (ds.length : Int) ≤ 16777216 := by have := hlim; unfold LIM at this; omega
    refine wb_cons (ws_if ?_)
    refine wt_val (fun _ => rfl) ?_
    refine we_isi rfl B.isinstance bt_isinstance rfl B.dict bt_dict ?_
    refine we_var 1 rfl (by walk_at "vis") rfl ?_
    refine ⟨_, _, _, .inl rfl, rfl, kt_list_dict, ?_⟩
    refine ⟨_, rfl, fun hd => absurd (show false = true from hd) Bool.false_ne_true, fun _ => ?_⟩
    refine wb_nil ?_
    refine wb_cons (ws_if ?_)
    refine wt_val (fun _ => rfl) ?_
    refine we_isiT rfl B.isinstance bt_isinstance rfl B.tuple bt_tuple rfl B.list bt_list ?_
    refine we_var 1 rfl (by walk_at "vis") rfl ?_
    refine ⟨_, _, true, rfl, rfl, by unfold PySem.W.kitAny; rw [kt_list_tuple]; unfold PySem.W.kitAny; rw [kt_list_list], ?_⟩
    refine ⟨_, rfl, fun _ => ?_, fun hd => absurd (show true = false from hd) (by decide)⟩
    refine wb_cons (ws_if ?_)
    refine wt_w (ww_or ?_)
    refine wt_not ?_
    refine wt_val (fun _ => rfl) ?_
    refine we_isiT rfl B.isinstance bt_isinstance rfl B.tuple bt_tuple rfl B.list bt_list ?_
    refine we_var 0 rfl (by walk_at "vis") rfl ?_
    refine ⟨_, _, true, rfl, rfl, by unfold PySem.W.kitAny; rw [kt_list_tuple]; unfold PySem.W.kitAny; rw [kt_list_list], ?_⟩
    refine ⟨_, rfl, ?_⟩
    refine ⟨fun _ => ?_, fun hd => absurd (show false = true from hd) Bool.false_ne_true⟩
    refine ww_or1 ?_
    refine wt_cmp (nomark _) ?_
    refine we_isi rfl B.isinstance bt_isinstance rfl B.list bt_list ?_
    refine we_var 0 rfl (by walk_at "vis") rfl ?_
    refine ⟨_, _, _, .inl rfl, rfl, kt_list_list, ?_⟩
    refine we_isi rfl B.isinstance bt_isinstance rfl B.list bt_list ?_
    refine we_var 1 rfl (by walk_at "vis") rfl ?_
    refine ⟨_, _, _, .inl rfl, rfl, kt_list_list, ?_⟩
    refine ⟨_, _, .inl rfl, .inl rfl, ?_⟩
    refine opw_neB ?_
    refine ⟨_, rfl, fun hd => absurd (show false = true from hd) Bool.false_ne_true, fun _ => ?_⟩
    refine wb_nil ?_
    refine wb_cons (ws_if ?_)
    refine wt_cmp (nomark _) ?_
    refine we_b1 (x := "len") (id := "len") rfl B.len bt_len ?_
    refine we_var 0 rfl (by walk_at "vis") rfl ?_
    refine ⟨_, .inl rfl, ?_⟩
    refine c_len ?_
    refine we_b1 (x := "len") (id := "len") rfl B.len bt_len ?_
    refine we_var 1 rfl (by walk_at "vis") rfl ?_
    refine ⟨_, .inl rfl, ?_⟩
    refine c_len ?_
    refine ⟨_, _, .inl rfl, .inl rfl, ?_⟩
    refine opw_neI ?_
    refine ⟨_, rfl, fun hd => absurd hd (by simp), fun _ => ?_⟩
    refine wb_nil ?_
    refine wb_cons (ws_ret ?_)
    refine we_cmp (nomark _) ?_
    refine we_lcQ [("_law_k", 2)] rfl nd (blkOk_by (by rfl)) (lcS_preP (γ := List Int) (σT := Unit) [("_law_k", 2)] [.sh (.lst ds), .sh (.lst ds), .no] (fun _ => G) (en := eI) eI ?_)
    refine wi_rng1 rfl B.range ?_
    refine we_b1 (x := "len") (id := "len") rfl B.len bt_len ?_
    refine we_var 1 rfl (by walk_at "vis") rfl ?_
    refine ⟨_, .inl rfl, ?_⟩
    refine c_len ?_
    refine ⟨_, rfl, ⟨by omega, by omega⟩, ?_⟩
    refine ⟨rgI 0 (ds.length : Int), (), fun _ x => if 0 ≤ x ∧ x < (ds.length : Int) then .ok (none, ()) else .no, fun q => .ok q.1, fun l => l = [], fun _ => False, rfl, by rw [rgI_length]; have := hlim; omega, Wk.refl _, rfl, ?_, fun s x Q' h => ?_, fun q h => ?_⟩
    · have e : Out.compS (fun (_ : Unit) (x : Int) => if 0 ≤ x ∧ x < (ds.length : Int) then (.ok (none, ()) : Out (Option Int × Unit)) else .no) (rgI 0 (ds.length : Int)) [] () = .ok ([], ()) := compS_none _ _ fun x hx => by rw [mem_rgI] at hx; exact if_pos hx
      rw [e]
      exact rfl
    · by_cases hx : 0 ≤ x ∧ x < (ds.length : Int)
      · dsimp only at h
        rw [if_pos hx] at h
        obtain ⟨j, rfl⟩ := Int.eq_ofNat_of_zero_le hx.1
        have hj2 : j < ds.length := by omega
        have hjd : ds[j]? = some ds[j] := List.getElem?_eq_getElem hj2
        rintro Y ⟨s1, H1, C1, cl, fp, rfl⟩
        refine wg_name 2 nd rfl (by walk_at "vis") (by decide) (lt_ rfl) ?_
        rintro Y ⟨s1, H1, C1, cl, fp, rfl⟩
        refine wt_not ?_
        refine wt_val (fun _ => rfl) ?_
        refine we_cal (BlkX.tk ⟨_, _, _, _, _, rfl⟩) c_law_alike hr rfl ?_
        refine wa_cons ?_
        refine we_ix (fun _ _ => rfl) ?_
        refine we_var 0 rfl (by walk_at "vis") rfl ?_
        refine we_var 2 rfl (by walk_at "vis") rfl ?_
        refine ⟨_, _, .inl rfl, .inl rfl, ?_⟩
        refine ixw_lst (atD_nat hjd) ?_
        refine ⟨_, _, rfl, ?_⟩
        refine wa_cons ?_
        refine we_ix (fun _ _ => rfl) ?_
        refine we_var 1 rfl (by walk_at "vis") rfl ?_
        refine we_var 2 rfl (by walk_at "vis") rfl ?_
        refine ⟨_, _, .inl rfl, .inl rfl, ?_⟩
        refine ixw_lst (atD_nat hjd) ?_
        refine ⟨_, _, rfl, ?_⟩
        refine wa_nil ?_
        refine ⟨ds[j], rfl, hok.2 _ (List.getElem_mem hj2), ?_⟩
        refine ⟨_, rfl, ?_⟩
        exact ⟨fun hd => absurd (show false = true from hd) Bool.false_ne_true, fun _ => ⟨(), Wk.refl _, rfl, h⟩⟩
      · dsimp only at h; rw [if_neg hx] at h; exact h.elim
    · have hq1 : q.1 = [] := h
      rw [hq1]
      refine we_lst ?_
      refine wa_nil ?_
      refine ⟨by decide, ?_⟩
      refine ⟨_, _, .inl rfl, .inl rfl, ?_⟩
      refine opw_eqC (eqc_lst eqc_int) hr.units ([] : List Int) [] ?_
      exact ⟨_, rfl, hq⟩
  | dic ks xs => cases n <;> exact absurd (show false = true from hok) Bool.false_ne_true
  | ins C xs => cases n <;> exact absurd (show false = true from hok) Bool.false_ne_true
  | adr a => cases n <;> exact absurd (show false = true from hok) Bool.false_ne_true
  | obj a b c => cases n <;> exact absurd (show false = true from hok) Bool.false_ne_true
  | slo a b c e => cases n <;> exact absurd (show false = true from hok) Bool.false_ne_true
  | xdo a b => cases n <;> exact absurd (show false = true from hok) Bool.false_ne_true
  | scr a => cases n <;> exact absurd (show false = true from hok) Bool.false_ne_true
  | tab a => cases n <;> exact absurd (show false = true from hok) Bool.false_ne_true
  | hob a => cases n <;> exact absurd (show false = true from hok) Bool.false_ne_true
  | kd _ _ _ => cases n <;> exact absurd (show false = true from hok) Bool.false_ne_true
theorem ok_is_number {f : Addr} {fd : FuncData} (F : Fun K "is_number" "is_number" s_is_number f fd) (B : Bn mg) : FnOk P w K mg base (L2.CX P w) 3 f fd ["value", "lowest", "highest"] (spD K (FM cx (A := Int × Int × Int) (R := Bool) (fun a => [eI a.1, eI a.2.1, eI a.2.2]) (fun v => .sh (eB v)) (fun a => .ok (m_is_number a.1 a.2.1 a.2.2)))) := by
  refine def_ok F sc_is_number (fun ds G post px h => ?_) (fun cdv A outer s H E F0 T hr ds G post px h tk hp => ?_)
  · obtain ⟨_, rfl, _⟩ := h; rfl
  obtain ⟨⟨value1, lowest2, highest3⟩, rfl, h⟩ := h
  unfold m_is_number at h
  try dsimp only at h
  have nd := sc_is_number.nd
  change WB _ _ [.sh (eI value1), .sh (eI lowest2), .sh (eI highest3)] _ _
  -- 55
  refine wb_cons (ws_ret ?_)
  refine we_andP (c2 := (!false) && ((decide (lowest2 ≤ value1)) && (decide (value1 ≤ highest3)))) ?_
  refine we_isi rfl B.isinstance bt_isinstance rfl B.int bt_int ?_
  refine we_var 0 rfl (by walk_at "vis") rfl ?_
  refine ⟨_, _, _, .inl rfl, rfl, kt_int_int, ?_⟩
  refine ⟨_, rfl, fun _ => ?_, ?_⟩
  · skip
    refine we_andP (c2 := (decide (lowest2 ≤ value1)) && (decide (value1 ≤ highest3))) ?_
    refine we_not ?_
    refine we_isi rfl B.isinstance bt_isinstance rfl B.bool bt_bool ?_
    refine we_var 0 rfl (by walk_at "vis") rfl ?_
    refine ⟨_, _, _, .inl rfl, rfl, kt_int_bool, ?_⟩
    refine ⟨_, rfl, ?_⟩
    refine ⟨_, rfl, fun _ => ?_, ?_⟩
    · skip
      refine we_one ?_
      refine we_chainI (fun i j R q => opw_le q) (fun i j R q => opw_le q) ?_
      refine we_var 1 rfl (by walk_at "vis") rfl ?_
      refine we_var 0 rfl (by walk_at "vis") rfl ?_
      refine ⟨_, _, highest3, rfl, rfl, fun _ => ?_, ?_⟩
      · skip
        refine we_var 2 rfl (by walk_at "vis") rfl ?_
        exact ⟨rfl, rfl, rfl⟩
      exact ⟨rfl, rfl, rfl⟩
    exact ⟨rfl, rfl, rfl⟩
  refine ⟨_, rfl, ?_⟩
  exact h
theorem ok_Ruler_init {f : Addr} {fd : FuncData} (F : Fun K "__init__" "Ruler.__init__" s_Ruler_init f fd) (B : Bn mg) (c_is_number : Cal P w K mg base "is_number" 3 ["value", "lowest", "highest"] (FM cx (A := Int × Int × Int) (R := Bool) (fun a => [eI a.1, eI a.2.1, eI a.2.2]) (fun v => .sh (eB v)) (fun a => .ok (m_is_number a.1 a.2.1 a.2.2)))) (cl_Ruler : Cl_Ruler K C_Ruler) {t_MAX_ERROR : Tok} (m_MAX_ERROR : mg "MAX_ERROR" = some (.int 9 t_MAX_ERROR)) {t_MAX_LENGTH : Tok} (m_MAX_LENGTH : mg "MAX_LENGTH" = some (.int 300 t_MAX_LENGTH)) {t_MAX_MARKS : Tok} (m_MAX_MARKS : mg "MAX_MARKS" = some (.int 12 t_MAX_MARKS)) {t_MIN_MARKS : Tok} (m_MIN_MARKS : mg "MIN_MARKS" = some (.int 2 t_MIN_MARKS)) : FnOk P w K mg base (L2.CX P w) 5 f fd ["self", "marks", "error"] (spI K C_Ruler (FMI cx (A := (List Int) × Int) (R := Rul) (fun a => [(eT eI) a.1, eI a.2]) (fun r => [.int r.error, .tup (r.marks.map D.int)]) (fun a => mk_Ruler a.1 a.2))) := by
  obtain ⟨q_Ruler_0, sl_Ruler_0⟩ := cl_Ruler.s0
  obtain ⟨q_Ruler_1, sl_Ruler_1⟩ := cl_Ruler.s1
  have nd := sc_Ruler_init.nd
  refine init2r_ok F sc_Ruler_init cl_Ruler.cls sl_Ruler_1 sl_Ruler_0 (fun ds G post px h => ?_) ((defBody s_Ruler_init).take 3) ((defBody s_Ruler_init).getD 3 (.Pass ⟨0, 0, 0, 0⟩)) ((defBody s_Ruler_init).getD 4 (.Pass ⟨0, 0, 0, 0⟩)) 1 2 rfl (fun cdv A outer s H E F0 T hr px => ⟨SlX.ps_sl (pe_var rfl (by walk_at "vis")) (pe_var rfl (by walk_at "vis")), SlX.ps_sl (pe_var rfl (by walk_at "vis")) (pe_var rfl (by walk_at "vis")), fun a0 ds G post h tk hp => ?_⟩)
  · obtain ⟨_, rfl, _⟩ := h; rfl
  obtain ⟨⟨marks1, error2⟩, rfl, h⟩ := h
  unfold mk_Ruler at h
  try dsimp only at h
  change WB _ _ [.sh (.adr a0), .sh ((eT eI) marks1), .sh (eI error2), .no, .no, .no] _ _
  -- 65
  refine Hold.h ?_
  refine wb_forOH (β := Rul) [3, 4] (σT := Unit) (fun s3 => [.sh (.adr a0), .sh ((eT eI) marks1), .sh (eI error2), .no, .no, .no]) (fun s3 => G) (eP eI eI) hp rfl ?_
  refine ti_enumT (f := eI) rfl B.enumerate ?_
  refine we_var 1 rfl (by walk_at "vis") rfl ?_
  refine ⟨marks1, _, rfl, fun hl6 => ?_⟩
  refine ⟨(penum marks1), (), _, _, _, _, rfl, (.eq (.eq (.eq (.no (.no (.no .nil)))))), rfl, h, fun s3 x5 Q' h => ?_, fun s4 h => ?_⟩
  · skip
    refine wg_pair 3 4 rfl nd rfl rfl (by walk_at "vis") (by walk_at "vis") (by decide) (by decide) (lt_ rfl) (lt_ rfl) ?_
    change WB _ _ [.sh (.adr a0), .sh ((eT eI) marks1), .sh (eI error2), .sh (eI x5.1), .sh (eI x5.2), .no] _ _
    -- 66
    refine wb_cons ?_
    refine Hold.h ?_
    refine ws_setH 5 nd rfl (by walk_at "vis") ?_
    refine we_ifN eI ?_
    refine wt_cmp (nomark _) ?_
    refine we_var 3 rfl (by walk_at "vis") rfl ?_
    refine we_int ?_
    refine ⟨_, _, .inl rfl, .inl rfl, ?_⟩
    refine opw_eqI ?_
    refine ⟨_, rfl, ?_⟩
    refine ⟨_, _, _, _, _, _, h, fun _ Q' h => ?_, fun _ Q' h => ?_, fun i7 h => ?_⟩
    · skip
      refine we_int ?_
      exact ⟨_, rfl, rfl, rfl, h⟩
    · skip
      refine we_bin ?_
      refine we_ix (fun _ _ => rfl) ?_
      refine we_var 1 rfl (by walk_at "vis") rfl ?_
      refine we_bin ?_
      refine we_var 3 rfl (by walk_at "vis") rfl ?_
      refine we_int ?_
      refine ⟨_, _, .inl rfl, .inl rfl, ?_⟩
      refine opw_sub ?_
      obtain ⟨x8, hx8, h⟩ := Out.gt h
      refine ⟨_, _, .inl rfl, .inl rfl, ?_⟩
      refine t_ixT (f := eI) hx8 ?_
      refine we_int ?_
      refine ⟨_, _, .inl rfl, .inl rfl, ?_⟩
      refine opw_add ?_
      exact ⟨_, rfl, rfl, rfl, h⟩
    refine ⟨lt_ rfl, _, rfl, ?_⟩
    change WB _ _ [.sh (.adr a0), .sh ((eT eI) marks1), .sh (eI error2), .sh (eI x5.1), .sh (eI x5.2), .sh (eI i7)] _ _
    -- 67
    refine wb_cons (ws_if ?_)
    refine wt_w ?_
    refine ww_orB ?_
    refine wt_cmp (nomark _) ?_
    refine we_var 3 rfl (by walk_at "vis") rfl ?_
    refine we_globI rfl m_MAX_MARKS ?_
    refine ⟨_, _, .inl rfl, .inl rfl, ?_⟩
    refine opw_eqI ?_
    refine ⟨_, rfl, ?_⟩
    refine ⟨(!(m_is_number x5.2 i7 (if (decide (x5.1 = (0 : Int))) = true then (0 : Int) else (300 : Int)))), fun _ => ?_, ?_⟩
    · skip
      refine ww_or1 ?_
      refine wt_not ?_
      refine wt_val (fun _ => rfl) ?_
      refine we_cal tk c_is_number hr rfl ?_
      refine wa_cons ?_
      refine we_var 4 rfl (by walk_at "vis") rfl ?_
      refine ⟨_, _, rfl, ?_⟩
      refine wa_cons ?_
      refine we_var 5 rfl (by walk_at "vis") rfl ?_
      refine ⟨_, _, rfl, ?_⟩
      refine wa_cons ?_
      refine we_ifP (en := eI) (va := (0 : Int)) (vb := (300 : Int)) ?_
      refine wt_cmp (nomark _) ?_
      refine we_var 3 rfl (by walk_at "vis") rfl ?_
      refine we_int ?_
      refine ⟨_, _, .inl rfl, .inl rfl, ?_⟩
      refine opw_eqI ?_
      refine ⟨_, rfl, ?_⟩
      refine ⟨fun _ => ?_, fun _ => ?_, ?_⟩
      · skip
        refine we_int ?_
        exact ⟨rfl, rfl, rfl⟩
      · skip
        refine we_globI rfl m_MAX_LENGTH ?_
        exact ⟨rfl, rfl, rfl⟩
      refine ⟨_, _, rfl, ?_⟩
      refine wa_nil ?_
      refine ⟨(x5.2, i7, if (decide (x5.1 = (0 : Int))) = true then (0 : Int) else (300 : Int)), rfl, ?_⟩
      refine ⟨_, rfl, ?_⟩
      exact ⟨rfl, rfl, rfl⟩
    refine ⟨fun hc => ?_, fun hc => ?_⟩
    · skip
      have h := (Out.iteb h).1 hc
      -- 68
      exact h.elim
    have h := (Out.iteb h).2 hc
    refine wb_nil ?_
    exact wb_nil ⟨(), (.eq (.eq (.eq (.no (.no (.no .nil)))))), rfl, h⟩
  -- 69
  refine wb_cons (ws_if ?_)
  refine wt_cmp (nomark _) ?_
  refine we_b1 (x := "len") (id := "len") rfl B.len bt_len ?_
  refine we_var 1 rfl (by walk_at "vis") rfl ?_
  refine ⟨_, .inl rfl, ?_⟩
  refine t_lenT (f := eI) marks1 ?_
  refine we_globI rfl m_MIN_MARKS ?_
  refine ⟨_, _, .inl rfl, .inl rfl, ?_⟩
  refine opw_lt ?_
  refine ⟨_, rfl, ?_⟩
  refine ⟨fun hc => ?_, fun hc => ?_⟩
  · skip
    have h := (Out.iteb h).1 hc
    -- 70
    exact h.elim
  have h := (Out.iteb h).2 hc
  refine wb_nil ?_
  -- 71
  refine wb_cons (ws_if ?_)
  refine wt_not ?_
  refine wt_val (fun _ => rfl) ?_
  refine we_cal tk c_is_number hr rfl ?_
  refine wa_cons ?_
  refine we_var 2 rfl (by walk_at "vis") rfl ?_
  refine ⟨_, _, rfl, ?_⟩
  refine wa_cons ?_
  refine we_int ?_
  refine ⟨_, _, rfl, ?_⟩
  refine wa_cons ?_
  refine we_globI rfl m_MAX_ERROR ?_
  refine ⟨_, _, rfl, ?_⟩
  refine wa_nil ?_
  refine ⟨(error2, (0 : Int), (9 : Int)), rfl, ?_⟩
  refine ⟨_, rfl, ?_⟩
  refine ⟨fun hc => ?_, fun hc => ?_⟩
  · skip
    have h := (Out.iteb h).1 hc
    -- 72
    exact h.elim
  have h := (Out.iteb h).2 hc
  refine wb_nil ?_
  exact wb_nil ⟨rfl, _, _, rfl, rfl, h⟩
theorem ok_Ruler_marks {f : Addr} {fd : FuncData} (F : Fun K "marks" "Ruler.marks" s_Ruler_marks f fd) (B : Bn mg) (cl_Ruler : Cl_Ruler K C_Ruler) : FnOk P w K mg base (L2.CX P w) 3 f fd ["self"] (spD K (FM cx (A := Rul) (R := List Int) (fun a => [(eRul C_Ruler) a]) (fun v => .sh ((eT eI) v)) (fun a => .ok (m_Ruler_marks a)))) := by
  refine def_ok F sc_Ruler_marks (fun ds G post px h => ?_) (fun cdv A outer s H E F0 T hr ds G post px h tk hp => ?_)
  · obtain ⟨_, rfl, _⟩ := h; rfl
  obtain ⟨self1, rfl, h⟩ := h
  unfold m_Ruler_marks at h
  try dsimp only at h
  have nd := sc_Ruler_marks.nd
  obtain ⟨q_Ruler_0, sl_Ruler_0⟩ := cl_Ruler.s0
  obtain ⟨q_Ruler_1, sl_Ruler_1⟩ := cl_Ruler.s1
  change WB _ _ [.sh ((eRul C_Ruler) self1)] _ _
  -- 78
  refine wb_cons (ws_ret ?_)
  refine we_fld 1 cl_Ruler.cls sl_Ruler_1 ?_
  refine we_var 0 rfl (by walk_at "vis") rfl ?_
  refine ⟨_, _, rfl, rfl, ?_⟩
  refine ⟨_, rfl, ?_⟩
  exact h
theorem ok_Ruler_error {f : Addr} {fd : FuncData} (F : Fun K "error" "Ruler.error" s_Ruler_error f fd) (B : Bn mg) (cl_Ruler : Cl_Ruler K C_Ruler) : FnOk P w K mg base (L2.CX P w) 3 f fd ["self"] (spD K (FM cx (A := Rul) (R := Int) (fun a => [(eRul C_Ruler) a]) (fun v => .sh (eI v)) (fun a => .ok (m_Ruler_error a)))) := by
  refine def_ok F sc_Ruler_error (fun ds G post px h => ?_) (fun cdv A outer s H E F0 T hr ds G post px h tk hp => ?_)
  · obtain ⟨_, rfl, _⟩ := h; rfl
  obtain ⟨self1, rfl, h⟩ := h
  unfold m_Ruler_error at h
  try dsimp only at h
  have nd := sc_Ruler_error.nd
  obtain ⟨q_Ruler_0, sl_Ruler_0⟩ := cl_Ruler.s0
  obtain ⟨q_Ruler_1, sl_Ruler_1⟩ := cl_Ruler.s1
  change WB _ _ [.sh ((eRul C_Ruler) self1)] _ _
  -- 82
  refine wb_cons (ws_ret ?_)
  refine we_fld 0 cl_Ruler.cls sl_Ruler_0 ?_
  refine we_var 0 rfl (by walk_at "vis") rfl ?_
  refine ⟨_, _, rfl, rfl, ?_⟩
  refine ⟨_, rfl, ?_⟩
  exact h
theorem ok_Ruler_length {f : Addr} {fd : FuncData} (F : Fun K "length" "Ruler.length" s_Ruler_length f fd) (B : Bn mg) (cl_Ruler : Cl_Ruler K C_Ruler) : FnOk P w K mg base (L2.CX P w) 3 f fd ["self"] (spD K (FM cx (A := Rul) (R := Int) (fun a => [(eRul C_Ruler) a]) (fun v => .sh (eI v)) (fun a => m_Ruler_length a))) := by
  refine def_ok F sc_Ruler_length (fun ds G post px h => ?_) (fun cdv A outer s H E F0 T hr ds G post px h tk hp => ?_)
  · obtain ⟨_, rfl, _⟩ := h; rfl
  obtain ⟨self1, rfl, h⟩ := h
  unfold m_Ruler_length at h
  try dsimp only at h
  have nd := sc_Ruler_length.nd
  obtain ⟨q_Ruler_0, sl_Ruler_0⟩ := cl_Ruler.s0
  obtain ⟨q_Ruler_1, sl_Ruler_1⟩ := cl_Ruler.s1
  change WB _ _ [.sh ((eRul C_Ruler) self1)] _ _
  -- 86
  refine wb_cons (ws_ret ?_)
  refine we_ix (fun _ _ => rfl) ?_
  refine we_fld 1 cl_Ruler.cls sl_Ruler_1 ?_
  refine we_var 0 rfl (by walk_at "vis") rfl ?_
  refine ⟨_, _, rfl, rfl, ?_⟩
  refine we_un rfl ?_
  refine we_int ?_
  refine ⟨_, rfl, ?_⟩
  obtain ⟨x2, hx2, h⟩ := Out.gt h
  refine ⟨_, _, .inl rfl, .inl rfl, ?_⟩
  refine t_ixT (f := eI) hx2 ?_
  refine ⟨_, rfl, ?_⟩
  exact h
theorem ok_spread_of {f : Addr} {fd : FuncData} (F : Fun K "spread_of" "spread_of" s_spread_of f fd) (B : Bn mg) : FnOk P w K mg base (L2.CX P w) 3 f fd ["marks"] (spD K (FM cx (A := List Int) (R := List Int) (fun a => [(eT eI) a]) (fun v => .fr ((eL eI) v)) (fun a => m_spread_of a))) := by
  refine def_ok F sc_spread_of (fun ds G post px h => ?_) (fun cdv A outer s H E F0 T hr ds G post px h tk hp => ?_)
  · obtain ⟨_, rfl, _⟩ := h; rfl
  obtain ⟨marks1, rfl, h⟩ := h
  unfold m_spread_of at h
  try dsimp only at h
  have nd := sc_spread_of.nd
  change WB _ _ [.sh ((eT eI) marks1), .no, .no, .no, .no] _ _
  -- 57
  refine wb_cons ?_
  refine Hold.h ?_
  refine ws_setH 1 nd rfl (by walk_at "vis") ?_
  refine we_lst ?_
  refine wa_nil ?_
  refine ⟨by decide, ?_⟩
  refine ⟨lt_ rfl, _, rfl, ?_⟩
  refine Hold.h ?_
  refine wb_letH h (fun found2 => [.sh ((eT eI) marks1), .own ((eL eI) found2), .no, .no, .no]) rfl fun found2 h => ?_
  -- 58
  refine Hold.h ?_
  refine wb_forOH (β := List Int) [2, 3] (σT := List Int) (fun s3 => [.sh ((eT eI) marks1), .own ((eL eI) s3), .no, .no, .no]) (fun s3 => G) (eP eI eI) hp rfl ?_
  refine ti_enumT (f := eI) rfl B.enumerate ?_
  refine we_var 0 rfl (by walk_at "vis") rfl ?_
  refine ⟨marks1, _, rfl, fun hl6 => ?_⟩
  refine ⟨(penum marks1), found2, _, _, _, _, rfl, (.eq (.eq (.no (.no (.no .nil))))), rfl, h, fun s3 x5 Q' h => ?_, fun s4 h => ?_⟩
  · skip
    refine wg_pair 2 3 rfl nd rfl rfl (by walk_at "vis") (by walk_at "vis") (by decide) (by decide) (lt_ rfl) (lt_ rfl) ?_
    change WB _ _ [.sh ((eT eI) marks1), .own ((eL eI) s3), .sh (eI x5.1), .sh (eI x5.2), .no] _ _
    -- 59
    refine wb_cons (ws_expr ?_)
    refine we_extendT (f := eI) ?_
    refine we_var 1 rfl (by walk_at "vis") rfl ?_
    refine ⟨_, s3, rfl, rfl, ?_⟩
    refine we_lcQ [("other", 4)] rfl nd (blkOk_by (by rfl)) (lc0_pre [("other", 4)] [.sh ((eT eI) marks1), .own ((eL eI) s3), .sh (eI x5.1), .sh (eI x5.2), .no] (en := eI) eI (fun (x8 : Int) => x8 - x5.2) ?_)
    refine Hold.h ?_
    refine ti_tupH (f := eI) ?_
    refine we_slice ?_
    refine we_var 0 rfl (by walk_at "vis") rfl ?_
    refine wo_some ?_
    refine we_bin ?_
    refine we_var 2 rfl (by walk_at "vis") rfl ?_
    refine we_int ?_
    refine ⟨_, _, .inl rfl, .inl rfl, ?_⟩
    refine opw_add ?_
    refine ⟨_, rfl, ?_⟩
    refine wo_none ?_
    refine ⟨_, .inl rfl, ?_⟩
    refine t_slT (f := eI) (xs := marks1) ?_
    refine ⟨(pcut marks1 (some (x5.1 + (1 : Int))) none), _, rfl, fun hl9 => ?_⟩
    refine ⟨(pcut marks1 (some (x5.1 + (1 : Int))) none), rfl, hl9, Wk.refl _, fun x8 => ?_, ?_⟩
    · skip
      rintro Y ⟨s1, H1, C1, cl, fp, rfl⟩
      refine wg_name 4 nd rfl (by walk_at "vis") (by decide) (lt_ rfl) ?_
      rintro Y ⟨s1, H1, C1, cl, fp, rfl⟩
      refine we_bin ?_
      refine we_var 4 rfl (by walk_at "vis") rfl ?_
      refine we_var 3 rfl (by walk_at "vis") rfl ?_
      refine ⟨_, _, .inl rfl, .inl rfl, ?_⟩
      refine opw_sub ?_
      exact ⟨_, rfl, Wk.refl _, rfl⟩
    obtain ⟨g10, h⟩ := Out.gd h
    refine ⟨((pcut marks1 (some (x5.1 + (1 : Int))) none).map (fun (x8 : Int) => x8 - x5.2)), _, s3, rfl, rfl, g10, ?_⟩
    refine Hold.h ?_
    refine wb_letH h (fun found11 => [.sh ((eT eI) marks1), .own ((eL eI) found11), .sh (eI x5.1), .sh (eI x5.2), .no]) rfl fun found11 h => ?_
    exact wb_nil ⟨found11, (.eq (.eq (.no (.no (.no .nil))))), rfl, h⟩
  -- 60
  refine wb_cons (ws_ret ?_)
  refine we_b1 (x := "sorted") (id := "sorted") rfl B.sorted bt_sorted ?_
  refine we_var 1 rfl (by walk_at "vis") rfl ?_
  refine ⟨_, .inl rfl, ?_⟩
  refine c_sorted (ns := s4) ?_
  refine ⟨_, rfl, ?_⟩
  exact h
theorem ok_Ruler_spans {f : Addr} {fd : FuncData} (F : Fun K "spans" "Ruler.spans" s_Ruler_spans f fd) (B : Bn mg) (c_spread_of : Cal P w K mg base "spread_of" 3 ["marks"] (FM cx (A := List Int) (R := List Int) (fun a => [(eT eI) a]) (fun v => .fr ((eL eI) v)) (fun a => m_spread_of a))) (cl_Ruler : Cl_Ruler K C_Ruler) : FnOk P w K mg base (L2.CX P w) 5 f fd ["self"] (spD K (FM cx (A := Rul) (R := List Int) (fun a => [(eRul C_Ruler) a]) (fun v => .sh ((eT eI) v)) (fun a => m_Ruler_spans a))) := by
  refine def_ok F sc_Ruler_spans (fun ds G post px h => ?_) (fun cdv A outer s H E F0 T hr ds G post px h tk hp => ?_)
  · obtain ⟨_, rfl, _⟩ := h; rfl
  obtain ⟨self1, rfl, h⟩ := h
  unfold m_Ruler_spans at h
  try dsimp only at h
  have nd := sc_Ruler_spans.nd
  obtain ⟨q_Ruler_0, sl_Ruler_0⟩ := cl_Ruler.s0
  obtain ⟨q_Ruler_1, sl_Ruler_1⟩ := cl_Ruler.s1
  change WB _ _ [.sh ((eRul C_Ruler) self1), .no] _ _
  -- 94
  refine wb_cons (ws_ret ?_)
  refine we_t1 (x := "tuple") (id := "tuple") rfl B.tuple bt_tuple ?_
  refine we_b1 (x := "sorted") (id := "sorted") rfl B.sorted bt_sorted ?_
  refine we_lock ?_
  refine we_dc0 [("span", 1)] [.sh ((eRul C_Ruler) self1), .no] (en := eI) kI eB kI_inj (fun (x2 : Int) => (x2, true)) rfl nd (blkOk_by (by rfl)) ?_
  refine ti_lst (f := eI) ?_
  refine we_cal tk c_spread_of hr rfl ?_
  refine wa_cons ?_
  refine we_fld 1 cl_Ruler.cls sl_Ruler_1 ?_
  refine we_var 0 rfl (by walk_at "vis") rfl ?_
  refine ⟨_, _, rfl, rfl, ?_⟩
  refine ⟨_, _, rfl, ?_⟩
  refine wa_nil ?_
  refine ⟨self1.marks, rfl, (Out.sb h).imp (fun r3 h => ?_) (fun _ he => he)⟩
  refine ⟨r3, _, rfl, fun hl4 => ?_⟩
  refine ⟨r3, rfl, hl4, Wk.refl _, fun x2 => ?_, ?_⟩
  · skip
    rintro Y ⟨s1, H1, C1, cl, fp, rfl⟩
    refine wg_name 1 nd rfl (by walk_at "vis") (by decide) (lt_ rfl) ?_
    rintro Y ⟨s1, H1, C1, cl, fp, rfl⟩
    refine we_var 1 rfl (by walk_at "vis") rfl ?_
    refine ⟨rfl, ?_⟩
    rintro Y ⟨s1, H1, C1, cl, fp, rfl⟩
    refine we_bl ?_
    exact ⟨_, rfl, Wk.refl _, rfl⟩
  refine ⟨_, _, rfl, ?_⟩
  refine ⟨_, .inl rfl, ?_⟩
  refine t_sortedD (f := eB) (dmk (r3.map (fun (x2 : Int) => (x2, true)))) rfl ?_
  refine ⟨_, .inl rfl, ?_⟩
  refine c_tuple ?_
  refine ⟨_, rfl, ?_⟩
  exact h
theorem ok_is_name {f : Addr} {fd : FuncData} (F : Fun K "is_name" "is_name" s_is_name f fd) (B : Bn mg) {t_LETTERS : Tok} (m_LETTERS : mg "LETTERS" = some (.str "abcdefghijklmnopqrstuvwxyz" t_LETTERS)) {t_MAX_LETTERS : Tok} (m_MAX_LETTERS : mg "MAX_LETTERS" = some (.int 8 t_MAX_LETTERS)) : FnOk P w K mg base (L2.CX P w) 3 f fd ["name"] (spD K (FM cx (A := S) (R := Bool) (fun a => [eZ a]) (fun v => .sh (eB v)) (fun a => m_is_name a))) := by
  refine def_ok F sc_is_name (fun ds G post px h => ?_) (fun cdv A outer s H E F0 T hr ds G post px h tk hp => ?_)
  · obtain ⟨_, rfl, _⟩ := h; rfl
  obtain ⟨name1, rfl, h⟩ := h
  unfold m_is_name at h
  try dsimp only at h
  have nd := sc_is_name.nd
  change WB _ _ [.sh (eZ name1), .no] _ _
  -- 117
  refine wb_cons (ws_if ?_)
  refine wt_w ?_
  refine ww_orN ?_
  refine wt_not ?_
  refine wt_val (fun _ => rfl) ?_
  refine we_isi rfl B.isinstance bt_isinstance rfl B.str bt_str ?_
  refine we_var 0 rfl (by walk_at "vis") rfl ?_
  refine ⟨_, _, _, .inl rfl, rfl, kt_str_str, ?_⟩
  refine ⟨_, rfl, ?_⟩
  refine ⟨_, _, _, _, _, h, fun _ Q' h => ?_, fun c2 h => ?_⟩
  · skip
    refine ww_or1 ?_
    refine wt_not ?_
    refine wt_chainI (fun i j R q => opw_le q) (fun i j R q => opw_le q) ?_
    refine we_int ?_
    refine we_b1 (x := "len") (id := "len") rfl B.len bt_len ?_
    refine we_var 0 rfl (by walk_at "vis") rfl ?_
    refine ⟨_, .inl rfl, ?_⟩
    obtain ⟨g3, h⟩ := Out.gd h
    refine t_lenS (x := name1) g3 ?_
    refine ⟨_, _, (8 : Int), rfl, rfl, fun _ => ?_, ?_⟩
    · skip
      refine we_globI rfl m_MAX_LETTERS ?_
      exact ⟨rfl, rfl, rfl⟩
    exact ⟨rfl, rfl, h⟩
  refine ⟨fun hc => ?_, fun hc => ?_⟩
  · skip
    have h := (Out.iteb h).1 hc
    -- 118
    refine wb_cons (ws_ret ?_)
    refine we_bl ?_
    refine ⟨_, rfl, ?_⟩
    exact h
  have h := (Out.iteb h).2 hc
  refine wb_nil ?_
  -- 119
  refine wb_cons (ws_ret ?_)
  refine we_cmp (nomark _) ?_
  refine we_lcQ [("letter", 1)] rfl nd (blkOk_by (by rfl)) (lc1_pre [("letter", 1)] [.sh (eZ name1), .no] (en := eC) eC (fun x4 => !decide (x4 ∈ chrs z_abcdefghijklmnopqrst)) (fun (x4 : Chr) => x4) ?_)
  refine ti_str ?_
  refine we_var 0 rfl (by walk_at "vis") rfl ?_
  refine ⟨name1, _, rfl, ?_⟩
  obtain ⟨g5, h⟩ := Out.gd h
  refine ⟨(chrs name1), rfl, g5, Wk.refl _, fun x4 => ?_, ?_⟩
  · skip
    rintro Y ⟨s1, H1, C1, cl, fp, rfl⟩
    refine wg_name 1 nd rfl (by walk_at "vis") (by decide) (lt_ rfl) ?_
    rintro Y ⟨s1, H1, C1, cl, fp, rfl⟩
    refine wt_cmp rfl ?_
    refine we_var 1 rfl (by walk_at "vis") rfl ?_
    refine we_globS rfl m_LETTERS ?_
    refine ⟨_, _, .inl rfl, .inl rfl, ?_⟩
    refine t_ninS (c := x4) (x := z_abcdefghijklmnopqrst) ?_
    refine ⟨_, rfl, ?_⟩
    refine ⟨rfl, fun _ => ?_, fun _ => ?_⟩
    · skip
      rintro Y ⟨s1, H1, C1, cl, fp, rfl⟩
      refine we_var 1 rfl (by walk_at "vis") rfl ?_
      exact ⟨_, rfl, Wk.refl _, rfl⟩
    exact ⟨Wk.refl _, rfl⟩
  refine we_lst ?_
  refine wa_nil ?_
  refine ⟨by decide, ?_⟩
  refine ⟨_, _, .inl rfl, .inl rfl, ?_⟩
  refine opw_eqC (eqc_lst eqc_chr) hr.units (((chrs name1).filter (fun (x4 : Chr) => !decide (x4 ∈ chrs z_abcdefghijklmnopqrst))).map (fun (x4 : Chr) => x4)) ([] : List Chr) ?_
  refine ⟨_, rfl, ?_⟩
  exact h
theorem ok_Rack_init {f : Addr} {fd : FuncData} (F : Fun K "__init__" "Rack.__init__" s_Rack_init f fd) (B : Bn mg) (c_is_name : Cal P w K mg base "is_name" 3 ["name"] (FM cx (A := S) (R := Bool) (fun a => [eZ a]) (fun v => .sh (eB v)) (fun a => m_is_name a))) (cl_Rack : Cl_Rack K C_Rack) {t_MAX_RULERS : Tok} (m_MAX_RULERS : mg "MAX_RULERS" = some (.int 6 t_MAX_RULERS)) : FnOk P w K mg base (L2.CX P w) 5 f fd ["self", "rulers"] (spI K C_Rack (FMI cx (A := List (S × Rul)) (R := Rak) (fun a => [(eD kZ (eRul C_Ruler)) a]) (fun r => [eD kZ (eRul C_Ruler) r.held]) (fun a => mk_Rack a))) := by
  obtain ⟨q_Rack_0, sl_Rack_0⟩ := cl_Rack.s0
  have nd := sc_Rack_init.nd
  refine init1_ok F sc_Rack_init cl_Rack.cls sl_Rack_0 (fun ds G post px h => ?_) ((defBody s_Rack_init).take 2) ((defBody s_Rack_init).getD 2 (.Pass ⟨0, 0, 0, 0⟩)) (asgV ((defBody s_Rack_init).getD 2 (.Pass ⟨0, 0, 0, 0⟩))) rfl (fun cdv A outer s H E F0 T hr px => ⟨SlX.ps_sl (pe_var rfl (by walk_at "vis")) peR, fun a0 ds G post h tk hp => ?_⟩)
  · obtain ⟨_, rfl, _⟩ := h; rfl
  obtain ⟨rulers1, rfl, h⟩ := h
  unfold mk_Rack at h
  try dsimp only at h
  change WB _ _ [.sh (.adr a0), .sh ((eD kZ (eRul C_Ruler)) rulers1), .no, .no] _ _
  -- 124
  refine Hold.h ?_
  refine wb_forOH (β := Rak) [2, 3] (σT := Unit) (fun s2 => [.sh (.adr a0), .sh ((eD kZ (eRul C_Ruler)) rulers1), .no, .no]) (fun s2 => G) (eP eI eZ) hp rfl ?_
  refine ti_enumD (k := kZ) (f := (eRul C_Ruler)) rfl B.enumerate ?_
  refine we_var 1 rfl (by walk_at "vis") rfl ?_
  refine ⟨rulers1, _, rfl, fun hl5 => ?_⟩
  refine ⟨(penum (rulers1.map (·.1))), (), _, _, _, _, rfl, (.eq (.eq (.no (.no .nil)))), rfl, h, fun s2 x4 Q' h => ?_, fun s3 h => ?_⟩
  · skip
    refine wg_pair 2 3 rfl nd rfl rfl (by walk_at "vis") (by walk_at "vis") (by decide) (by decide) (lt_ rfl) (lt_ rfl) ?_
    change WB _ _ [.sh (.adr a0), .sh ((eD kZ (eRul C_Ruler)) rulers1), .sh (eI x4.1), .sh (eZ x4.2)] _ _
    -- 125
    refine wb_cons (ws_if ?_)
    refine wt_w ?_
    refine ww_orN ?_
    refine wt_cmp (nomark _) ?_
    refine we_var 2 rfl (by walk_at "vis") rfl ?_
    refine we_globI rfl m_MAX_RULERS ?_
    refine ⟨_, _, .inl rfl, .inl rfl, ?_⟩
    refine opw_eqI ?_
    refine ⟨_, rfl, ?_⟩
    refine ⟨_, _, _, _, _, h, fun _ Q' h => ?_, fun c6 h => ?_⟩
    · skip
      refine ww_or1 ?_
      refine wt_not ?_
      refine wt_val (fun _ => rfl) ?_
      refine we_cal tk c_is_name hr rfl ?_
      refine wa_cons ?_
      refine we_var 3 rfl (by walk_at "vis") rfl ?_
      refine ⟨_, _, rfl, ?_⟩
      refine wa_nil ?_
      refine ⟨x4.2, rfl, (Out.sb h).imp (fun r7 h => ?_) (fun _ he => he)⟩
      refine ⟨_, rfl, ?_⟩
      exact ⟨rfl, rfl, h⟩
    refine ⟨fun hc => ?_, fun hc => ?_⟩
    · skip
      have h := (Out.iteb h).1 hc
      -- 126
      exact h.elim
    have h := (Out.iteb h).2 hc
    refine wb_nil ?_
    exact wb_nil ⟨(), (.eq (.eq (.no (.no .nil)))), rfl, h⟩
  -- 127
  refine wb_cons (ws_if ?_)
  refine wt_cmp (nomark _) ?_
  refine we_var 1 rfl (by walk_at "vis") rfl ?_
  refine we_lock ?_
  refine we_dnew ?_
  refine ⟨_, _, rfl, ?_⟩
  refine ⟨_, _, .inl rfl, .inl rfl, ?_⟩
  refine t_deq0 (k := kZ) (f := (eRul C_Ruler)) hr.units rulers1 ?_
  refine ⟨_, rfl, ?_⟩
  refine ⟨fun hc => ?_, fun hc => ?_⟩
  · skip
    have h := (Out.iteb h).1 hc
    -- 128
    exact h.elim
  have h := (Out.iteb h).2 hc
  refine wb_nil ?_
  refine wb_nil ?_
  refine we_lock ?_
  refine we_dcS [("name", 3)] [.sh (.adr a0), .sh ((eD kZ (eRul C_Ruler)) rulers1), .no, .no] (fun _ : Unit => G) (en := eZ) kZ (eRul C_Ruler) kZ_inj rfl nd (blkOk_by (by rfl)) ?_
  refine ti_lst (f := eZ) ?_
  refine we_b1 (x := "sorted") (id := "sorted") rfl B.sorted bt_sorted ?_
  refine we_var 1 rfl (by walk_at "vis") rfl ?_
  refine ⟨_, .inl rfl, ?_⟩
  obtain ⟨g9, h⟩ := Out.gd h
  refine t_sortedDS (f := (eRul C_Ruler)) rulers1 rfl g9 ?_
  refine ⟨(ssort (rulers1.map (·.1))), _, rfl, fun hl10 => ?_⟩
  refine ⟨_, (ssort (rulers1.map (·.1))), (), _, _, _, _, rfl, hl10, Wk.refl _, rfl, h, fun s11 x8 Q' h => ?_, fun l12 h => ?_⟩
  · skip
    rintro Y ⟨s1, H1, C1, cl, fp, rfl⟩
    refine wg_name 3 nd rfl (by walk_at "vis") (by decide) (lt_ rfl) ?_
    rintro Y ⟨s1, H1, C1, cl, fp, rfl⟩
    refine we_var 3 rfl (by walk_at "vis") rfl ?_
    refine ⟨x8, rfl, ?_⟩
    rintro Y ⟨s1, H1, C1, cl, fp, rfl⟩
    refine we_dget (k := kZ) (f := (eRul C_Ruler)) kZ_inj hr.units (fun _ _ => rfl) ?_
    refine we_var 1 rfl (by walk_at "vis") rfl ?_
    refine we_var 3 rfl (by walk_at "vis") rfl ?_
    obtain ⟨x13, hx13, h⟩ := Out.gt h
    refine ⟨rulers1, x8, _, .inl rfl, rfl, hx13, ?_⟩
    exact ⟨x13, (), _, rfl, Wk.refl _, rfl, h⟩
  refine ⟨_, _, rfl, ?_⟩
  exact ⟨_, _, rfl, rfl, h⟩
theorem ok_Rack_getitem {f : Addr} {fd : FuncData} (F : Fun K "__getitem__" "Rack.__getitem__" s_Rack_getitem f fd) (B : Bn mg) (cl_Rack : Cl_Rack K C_Rack) : FnOk P w K mg base (L2.CX P w) 3 f fd ["self", "name"] (spD K (FM cx (A := Rak × S) (R := Rul) (fun a => [(eRak C_Rack C_Ruler) a.1, eZ a.2]) (fun v => .sh ((eRul C_Ruler) v)) (fun a => m_Rack___getitem a.1 a.2))) := by
  refine def_ok F sc_Rack_getitem (fun ds G post px h => ?_) (fun cdv A outer s H E F0 T hr ds G post px h tk hp => ?_)
  · obtain ⟨_, rfl, _⟩ := h; rfl
  obtain ⟨⟨self1, name2⟩, rfl, h⟩ := h
  unfold m_Rack___getitem at h
  try dsimp only at h
  have nd := sc_Rack_getitem.nd
  obtain ⟨q_Rack_0, sl_Rack_0⟩ := cl_Rack.s0
  change WB _ _ [.sh ((eRak C_Rack C_Ruler) self1), .sh (eZ name2)] _ _
  -- 140
  refine wb_cons (ws_if ?_)
  refine wt_cmp rfl ?_
  refine we_var 1 rfl (by walk_at "vis") rfl ?_
  refine we_fld 0 cl_Rack.cls sl_Rack_0 ?_
  refine we_var 0 rfl (by walk_at "vis") rfl ?_
  refine ⟨_, _, rfl, rfl, ?_⟩
  refine ⟨_, _, .inl rfl, .inl rfl, ?_⟩
  refine opw_dnin (k := kZ) (f := (eRul C_Ruler)) (kvs := self1.held) (x := name2) kZ_inj hr.units ?_
  refine ⟨_, rfl, ?_⟩
  refine ⟨fun hc => ?_, fun hc => ?_⟩
  · skip
    have h := (Out.iteb h).1 hc
    -- 141
    exact h.elim
  have h := (Out.iteb h).2 hc
  refine wb_nil ?_
  -- 142
  refine wb_cons (ws_ret ?_)
  refine we_dget (k := kZ) (f := (eRul C_Ruler)) kZ_inj hr.units (fun _ _ => rfl) ?_
  refine we_fld 0 cl_Rack.cls sl_Rack_0 ?_
  refine we_var 0 rfl (by walk_at "vis") rfl ?_
  refine ⟨_, _, rfl, rfl, ?_⟩
  refine we_var 1 rfl (by walk_at "vis") rfl ?_
  obtain ⟨x3, hx3, h⟩ := Out.gt h
  refine ⟨self1.held, name2, _, .inl rfl, rfl, hx3, ?_⟩
  refine ⟨_, rfl, ?_⟩
  exact h
theorem ok_validate_places {f : Addr} {fd : FuncData} (F : Fun K "validate_places" "validate_places" s_validate_places f fd) (B : Bn mg) (c_is_number : Cal P w K mg base "is_number" 3 ["value", "lowest", "highest"] (FM cx (A := Int × Int × Int) (R := Bool) (fun a => [eI a.1, eI a.2.1, eI a.2.2]) (fun v => .sh (eB v)) (fun a => .ok (m_is_number a.1 a.2.1 a.2.2)))) {t_MAX_END : Tok} (m_MAX_END : mg "MAX_END" = some (.int 200 t_MAX_END)) : FnOk P w K mg base (L2.CX P w) 5 f fd ["end", "places"] (spD K (FM cx (A := Int × (List Int)) (R := Unit) (fun a => [eI a.1, (eL eI) a.2]) (fun v => .sh (eU v)) (fun a => m_validate_places a.1 a.2))) := by
  refine def_ok F sc_validate_places (fun ds G post px h => ?_) (fun cdv A outer s H E F0 T hr ds G post px h tk hp => ?_)
  · obtain ⟨_, rfl, _⟩ := h; rfl
  obtain ⟨⟨end1, places2⟩, rfl, h⟩ := h
  unfold m_validate_places at h
  try dsimp only at h
  have nd := sc_validate_places.nd
  change WB _ _ [.sh (eI end1), .sh ((eL eI) places2), .no] _ _
  -- 107
  refine wb_cons (ws_if ?_)
  refine wt_not ?_
  refine wt_val (fun _ => rfl) ?_
  refine we_cal tk c_is_number hr rfl ?_
  refine wa_cons ?_
  refine we_var 0 rfl (by walk_at "vis") rfl ?_
  refine ⟨_, _, rfl, ?_⟩
  refine wa_cons ?_
  refine we_int ?_
  refine ⟨_, _, rfl, ?_⟩
  refine wa_cons ?_
  refine we_globI rfl m_MAX_END ?_
  refine ⟨_, _, rfl, ?_⟩
  refine wa_nil ?_
  refine ⟨(end1, (1 : Int), (200 : Int)), rfl, ?_⟩
  refine ⟨_, rfl, ?_⟩
  refine ⟨fun hc => ?_, fun hc => ?_⟩
  · skip
    have h := (Out.iteb h).1 hc
    -- 108
    exact h.elim
  have h := (Out.iteb h).2 hc
  refine wb_nil ?_
  -- 109
  refine Hold.h ?_
  refine wb_forOH (β := Unit) [2] (σT := Unit) (fun s4 => [.sh (eI end1), .sh ((eL eI) places2), .no]) (fun s4 => G) eI hp rfl ?_
  refine ti_lst (f := eI) ?_
  refine we_var 1 rfl (by walk_at "vis") rfl ?_
  refine ⟨places2, _, rfl, fun hl7 => ?_⟩
  refine ⟨places2, (), _, _, _, _, rfl, (.eq (.eq (.no .nil))), rfl, h, fun s4 x6 Q' h => ?_, fun s5 h => ?_⟩
  · skip
    refine wg_name 2 nd rfl (by walk_at "vis") (by decide) (lt_ rfl) ?_
    change WB _ _ [.sh (eI end1), .sh ((eL eI) places2), .sh (eI x6)] _ _
    -- 110
    refine wb_cons (ws_if ?_)
    refine wt_not ?_
    refine wt_val (fun _ => rfl) ?_
    refine we_cal tk c_is_number hr rfl ?_
    refine wa_cons ?_
    refine we_var 2 rfl (by walk_at "vis") rfl ?_
    refine ⟨_, _, rfl, ?_⟩
    refine wa_cons ?_
    refine we_int ?_
    refine ⟨_, _, rfl, ?_⟩
    refine wa_cons ?_
    refine we_var 0 rfl (by walk_at "vis") rfl ?_
    refine ⟨_, _, rfl, ?_⟩
    refine wa_nil ?_
    refine ⟨(x6, (0 : Int), end1), rfl, ?_⟩
    refine ⟨_, rfl, ?_⟩
    refine ⟨fun hc => ?_, fun hc => ?_⟩
    · skip
      have h := (Out.iteb h).1 hc
      -- 111
      exact h.elim
    have h := (Out.iteb h).2 hc
    refine wb_nil ?_
    exact wb_nil ⟨(), (.eq (.eq (.no .nil))), rfl, h⟩
  exact wb_nil h
theorem ok_Scene_init {f : Addr} {fd : FuncData} (F : Fun K "__init__" "Scene.__init__" s_Scene_init f fd) (B : Bn mg) (cl_Scene : Cl_Scene K C_Scene) : FnOk P w K mg base (L2.CX P w) 3 f fd ["self", "spot", "laid", "errors", "cuts"] (spI K C_Scene (FMI cx (A := Int × Int × Int × (List Int)) (R := Scn) (fun a => [eI a.1, eI a.2.1, eI a.2.2.1, (eT eI) a.2.2.2]) (fun r => [.tup (r.cuts.map D.int), .int r.errors, .int r.laid, .int r.spot]) (fun a => mk_Scene a.1 a.2.1 a.2.2.1 a.2.2.2))) := by
  obtain ⟨q_Scene_0, sl_Scene_0⟩ := cl_Scene.s0
  obtain ⟨q_Scene_1, sl_Scene_1⟩ := cl_Scene.s1
  obtain ⟨q_Scene_2, sl_Scene_2⟩ := cl_Scene.s2
  obtain ⟨q_Scene_3, sl_Scene_3⟩ := cl_Scene.s3
  have nd := sc_Scene_init.nd
  refine init4r_ok F sc_Scene_init cl_Scene.cls sl_Scene_3 sl_Scene_2 sl_Scene_1 sl_Scene_0 (fun ds G post px h => ?_) ((defBody s_Scene_init).take 0) ((defBody s_Scene_init).getD 0 (.Pass ⟨0, 0, 0, 0⟩)) ((defBody s_Scene_init).getD 1 (.Pass ⟨0, 0, 0, 0⟩)) ((defBody s_Scene_init).getD 2 (.Pass ⟨0, 0, 0, 0⟩)) ((defBody s_Scene_init).getD 3 (.Pass ⟨0, 0, 0, 0⟩)) 1 2 3 4 rfl (fun cdv A outer s H E F0 T hr px => ⟨SlX.ps_sl (pe_var rfl (by walk_at "vis")) (pe_var rfl (by walk_at "vis")), SlX.ps_sl (pe_var rfl (by walk_at "vis")) (pe_var rfl (by walk_at "vis")), SlX.ps_sl (pe_var rfl (by walk_at "vis")) (pe_var rfl (by walk_at "vis")), SlX.ps_sl (pe_var rfl (by walk_at "vis")) (pe_var rfl (by walk_at "vis")), fun a0 ds G post h tk hp => ?_⟩)
  · obtain ⟨_, rfl, _⟩ := h; rfl
  obtain ⟨⟨spot1, laid2, errors3, cuts4⟩, rfl, h⟩ := h
  unfold mk_Scene at h
  try dsimp only at h
  change WB _ _ [.sh (.adr a0), .sh (eI spot1), .sh (eI laid2), .sh (eI errors3), .sh ((eT eI) cuts4)] _ _
  exact wb_nil ⟨rfl, _, _, _, _, rfl, rfl, rfl, rfl, h⟩
theorem ok_Bench_init {f : Addr} {fd : FuncData} (F : Fun K "__init__" "Bench.__init__" s_Bench_init f fd) (B : Bn mg) (c_validate_places : Cal P w K mg base "validate_places" 5 ["end", "places"] (FM cx (A := Int × (List Int)) (R := Unit) (fun a => [eI a.1, (eL eI) a.2]) (fun v => .sh (eU v)) (fun a => m_validate_places a.1 a.2))) (k_Scene : MakeD P w K mg base "Scene" C_Scene 3 ["self", "spot", "laid", "errors", "cuts"] (FMI cx (A := Int × Int × Int × (List Int)) (R := Scn) (fun a => [eI a.1, eI a.2.1, eI a.2.2.1, (eT eI) a.2.2.2]) (fun r => [.tup (r.cuts.map D.int), .int r.errors, .int r.laid, .int r.spot]) (fun a => mk_Scene a.1 a.2.1 a.2.2.1 a.2.2.2))) (cl_Bench : Clo_Bench K C_Bench) : FnOk P w K mg base (L2.CX P w) 7 f fd ["self", "rack", "end"] (spD K (FIO cx C_Bench ns_Bench (σT := S_Bench) (A := Rak × Int) (fl_Bench C_Ruler C_Rack C_Scene) (fun a => [(eRak C_Rack C_Ruler) a.1, eI a.2]) (fun a => mk_Bench a.1 a.2))) := by
  refine def_ok F sc_Bench_init (fun ds G post px h => ?_) (fun cdv A outer s H E F0 T hr ds G post px h tk hp => ?_)
  · obtain ⟨_, _, _, _, rfl, _⟩ := h; rfl
  obtain ⟨⟨rack1, end2⟩, o, dx, GI, rfl, hG, hi1, hi2, hi3, h⟩ := h
  have hP : obA C_Bench o [] [] [o] G := by rw [hG]; exact obA_new
  have hF : Frm [] GI [o] G := by rw [hG]; exact frm_new hi1 hi2
  unfold mk_Bench at h
  try dsimp only at h
  have nd := sc_Bench_init.nd
  change WB _ _ [.sh (.adr o), .sh ((eRak C_Rack C_Ruler) rack1), .sh (eI end2)] _ _
  -- 181
  refine wb_cons (ws_expr ?_)
  refine we_cal tk c_validate_places hr rfl ?_
  refine wa_cons ?_
  refine we_var 2 rfl (by walk_at "vis") rfl ?_
  refine ⟨_, _, rfl, ?_⟩
  refine wa_cons ?_
  refine we_lst ?_
  refine wa_nil ?_
  refine ⟨by decide, ?_⟩
  refine ⟨_, _, rfl, ?_⟩
  refine wa_nil ?_
  refine ⟨(end2, ([] : List Int)), rfl, (Out.sb h).imp (fun r3 h => ?_) (fun _ he => he _ fun b_ hb_ => hF.1 b_ (fun z => nomatch z) hb_)⟩
  -- 182
  refine wb_cons (ws_fldA (ns := []) (fs := []) cl_Bench.cls cl_Bench.n_rack_used (by decide) ?_)
  refine we_var 1 rfl (by walk_at "vis") rfl ?_
  refine ⟨_, _, rfl, ?_⟩
  refine we_var 0 rfl (by walk_at "vis") rfl ?_
  refine ⟨_, _, rfl, hP, fun fp1 G4 hP1 hF1 => ?_⟩
  have hP : obA C_Bench o ["rack_used"] [.sh ((eRak C_Rack C_Ruler) rack1)] _ G4 := hP1
  have hF := hF.trans hF1
  change WB _ _ [.sh (.adr o), .sh ((eRak C_Rack C_Ruler) rack1), .sh (eI end2)] _ _
  -- 183
  refine wb_cons (ws_fldA (ns := ["rack_used"]) (fs := [.sh ((eRak C_Rack C_Ruler) rack1)]) cl_Bench.cls cl_Bench.n_last (by decide) ?_)
  refine we_var 2 rfl (by walk_at "vis") rfl ?_
  refine ⟨_, _, rfl, ?_⟩
  refine we_var 0 rfl (by walk_at "vis") rfl ?_
  refine ⟨_, _, rfl, hP, fun fp1 G5 hP1 hF1 => ?_⟩
  have hP : obA C_Bench o ["rack_used", "last"] [.sh ((eRak C_Rack C_Ruler) rack1), .sh (eI end2)] _ G5 := hP1
  have hF := hF.trans hF1
  change WB _ _ [.sh (.adr o), .sh ((eRak C_Rack C_Ruler) rack1), .sh (eI end2)] _ _
  -- 184
  refine wb_cons (ws_fldA (ns := ["rack_used", "last"]) (fs := [.sh ((eRak C_Rack C_Ruler) rack1), .sh (eI end2)]) cl_Bench.cls cl_Bench.n_scene (by decide) ?_)
  refine we_make tk k_Scene hr rfl ?_
  refine wa_cons ?_
  refine we_int ?_
  refine ⟨_, _, rfl, ?_⟩
  refine wa_cons ?_
  refine we_int ?_
  refine ⟨_, _, rfl, ?_⟩
  refine wa_cons ?_
  refine we_int ?_
  refine ⟨_, _, rfl, ?_⟩
  refine wa_cons ?_
  refine we_tup ?_
  refine wa_nil ?_
  refine ⟨by decide, ?_⟩
  refine ⟨_, _, rfl, ?_⟩
  refine wa_nil ?_
  refine ⟨((0 : Int), (0 : Int), (0 : Int), ([] : List Int)), rfl, (Out.sb h).imp (fun r7 h => ?_) (fun _ he => he _ fun b_ hb_ => hF.1 b_ (fun z => nomatch z) hb_)⟩
  refine ⟨_, _, rfl, ?_⟩
  refine we_var 0 rfl (by walk_at "vis") rfl ?_
  refine ⟨_, _, rfl, hP, fun fp1 G6 hP1 hF1 => ?_⟩
  have hP : obA C_Bench o ["rack_used", "last", "scene"] [.sh ((eRak C_Rack C_Ruler) rack1), .sh (eI end2), .sh ((eScn C_Scene) r7)] _ G6 := hP1
  have hF := hF.trans hF1
  change WB _ _ [.sh (.adr o), .sh ((eRak C_Rack C_Ruler) rack1), .sh (eI end2)] _ _
  -- 185
  refine wb_cons (ws_fldA (ns := ["rack_used", "last", "scene"]) (fs := [.sh ((eRak C_Rack C_Ruler) rack1), .sh (eI end2), .sh ((eScn C_Scene) r7)]) cl_Bench.cls cl_Bench.n_marked (by decide) ?_)
  refine we_lock ?_
  refine we_dnew ?_
  refine ⟨_, _, rfl, ?_⟩
  refine ⟨_, _, rfl, ?_⟩
  refine we_var 0 rfl (by walk_at "vis") rfl ?_
  refine ⟨_, _, rfl, hP, fun fp1 G8 hP1 hF1 => ?_⟩
  have hP : obA C_Bench o ["rack_used", "last", "scene", "marked"] [.sh ((eRak C_Rack C_Ruler) rack1), .sh (eI end2), .sh ((eScn C_Scene) r7), .sh ((eD kZ (eScn C_Scene)) [])] _ G8 := hP1
  have hF := hF.trans hF1
  change WB _ _ [.sh (.adr o), .sh ((eRak C_Rack C_Ruler) rack1), .sh (eI end2)] _ _
  -- 186
  refine wb_cons (ws_fldN (ns := ["rack_used", "last", "scene", "marked"]) (fs := [.sh ((eRak C_Rack C_Ruler) rack1), .sh (eI end2), .sh ((eScn C_Scene) r7), .sh ((eD kZ (eScn C_Scene)) [])]) cl_Bench.cls cl_Bench.n_past (by decide) ?_)
  refine we_lst ?_
  refine wa_nil ?_
  refine ⟨by decide, ?_⟩
  refine ⟨_, rfl, fun a10 ha10 => ?_⟩
  refine we_var 0 rfl (by walk_at "vis") rfl ?_
  refine ⟨_, _, rfl, rfl, hP, fun fp1 G9 hP1 hF1 => ?_⟩
  have hP : obA C_Bench o ["rack_used", "last", "scene", "marked", "past"] [.sh ((eRak C_Rack C_Ruler) rack1), .sh (eI end2), .sh ((eScn C_Scene) r7), .sh ((eD kZ (eScn C_Scene)) []), .mu (List.map (eP5 (eT eAt) (eScn C_Scene) (eD kZ (eScn C_Scene)) (eScn C_Scene) (eD kZ (eScn C_Scene))) ([] : List ((List At × Scn × List (S × Scn) × Scn × List (S × Scn)))))] _ G9 := hP1
  have hF := hF.trans hF1
  change WB _ _ [.sh (.adr o), .sh ((eRak C_Rack C_Ruler) rack1), .sh (eI end2)] _ _
  -- 187
  refine wb_cons (ws_fldN (ns := ["rack_used", "last", "scene", "marked", "past"]) (fs := [.sh ((eRak C_Rack C_Ruler) rack1), .sh (eI end2), .sh ((eScn C_Scene) r7), .sh ((eD kZ (eScn C_Scene)) []), .mu (List.map (eP5 (eT eAt) (eScn C_Scene) (eD kZ (eScn C_Scene)) (eScn C_Scene) (eD kZ (eScn C_Scene))) ([] : List ((List At × Scn × List (S × Scn) × Scn × List (S × Scn)))))]) cl_Bench.cls cl_Bench.n_later (by decide) ?_)
  refine we_lst ?_
  refine wa_nil ?_
  refine ⟨by decide, ?_⟩
  refine ⟨_, rfl, fun a12 ha12 => ?_⟩
  refine we_var 0 rfl (by walk_at "vis") rfl ?_
  refine ⟨_, _, rfl, rfl, hP, fun fp1 G11 hP1 hF1 => ?_⟩
  have hP : obA C_Bench o ["rack_used", "last", "scene", "marked", "past", "later"] [.sh ((eRak C_Rack C_Ruler) rack1), .sh (eI end2), .sh ((eScn C_Scene) r7), .sh ((eD kZ (eScn C_Scene)) []), .mu (List.map (eP5 (eT eAt) (eScn C_Scene) (eD kZ (eScn C_Scene)) (eScn C_Scene) (eD kZ (eScn C_Scene))) ([] : List ((List At × Scn × List (S × Scn) × Scn × List (S × Scn))))), .mu (List.map (eP5 (eT eAt) (eScn C_Scene) (eD kZ (eScn C_Scene)) (eScn C_Scene) (eD kZ (eScn C_Scene))) ([] : List ((List At × Scn × List (S × Scn) × Scn × List (S × Scn)))))] _ G11 := hP1
  have hF := hF.trans hF1
  change WB _ _ [.sh (.adr o), .sh ((eRak C_Rack C_Ruler) rack1), .sh (eI end2)] _ _
  exact wb_nil (h _ _ hP hF)
theorem ok_Bench_place {f : Addr} {fd : FuncData} (F : Fun K "place" "Bench.place" s_Bench_place f fd) (B : Bn mg) (cl_Scene : Cl_Scene K C_Scene) (cl_Bench : Clo_Bench K C_Bench) : FnOk P w K mg base (L2.CX P w) 3 f fd ["self"] (spD K (FCO cx C_Bench ns_Bench (σT := S_Bench) (A := Unit) (R := Int) (fl_Bench C_Ruler C_Rack C_Scene) (fun _ => []) (fun v => .sh (eI v)) (fun s _ => .ok (m_Bench_place s)))) := by
  refine def_ok F sc_Bench_place (fun ds G post px h => ?_) (fun cdv A outer s H E F0 T hr ds GI post px h tk hp => ?_)
  · obtain ⟨_, _, _, _, rfl, _⟩ := h; rfl
  obtain ⟨self1, _, o, fpI, rfl, hP, h⟩ := h
  unfold m_Bench_place at h
  try dsimp only at h
  have nd := sc_Bench_place.nd
  obtain ⟨q_Scene_0, sl_Scene_0⟩ := cl_Scene.s0
  obtain ⟨q_Scene_1, sl_Scene_1⟩ := cl_Scene.s1
  obtain ⟨q_Scene_2, sl_Scene_2⟩ := cl_Scene.s2
  obtain ⟨q_Scene_3, sl_Scene_3⟩ := cl_Scene.s3
  change WB _ _ [.sh (.adr o)] _ _
  -- 195
  refine wb_cons (ws_ret ?_)
  refine we_fld 3 cl_Scene.cls sl_Scene_3 ?_
  refine we_fldA (ns := ns_Bench) (fs := fl_Bench C_Ruler C_Rack C_Scene self1) cl_Bench.cls cl_Bench.n_scene rfl ?_
  refine we_var 0 rfl (by walk_at "vis") rfl ?_
  refine ⟨_, _, rfl, hP, ?_⟩
  refine ⟨_, _, rfl, rfl, ?_⟩
  refine ⟨_, rfl, ?_⟩
  exact h
theorem ok_Bench_scratches {f : Addr} {fd : FuncData} (F : Fun K "scratches" "Bench.scratches" s_Bench_scratches f fd) (B : Bn mg) (cl_Scene : Cl_Scene K C_Scene) (cl_Bench : Clo_Bench K C_Bench) : FnOk P w K mg base (L2.CX P w) 3 f fd ["self"] (spD K (FCO cx C_Bench ns_Bench (σT := S_Bench) (A := Unit) (R := List Int) (fl_Bench C_Ruler C_Rack C_Scene) (fun _ => []) (fun v => .sh ((eT eI) v)) (fun s _ => .ok (m_Bench_scratches s)))) := by
  refine def_ok F sc_Bench_scratches (fun ds G post px h => ?_) (fun cdv A outer s H E F0 T hr ds GI post px h tk hp => ?_)
  · obtain ⟨_, _, _, _, rfl, _⟩ := h; rfl
  obtain ⟨self1, _, o, fpI, rfl, hP, h⟩ := h
  unfold m_Bench_scratches at h
  try dsimp only at h
  have nd := sc_Bench_scratches.nd
  obtain ⟨q_Scene_0, sl_Scene_0⟩ := cl_Scene.s0
  obtain ⟨q_Scene_1, sl_Scene_1⟩ := cl_Scene.s1
  obtain ⟨q_Scene_2, sl_Scene_2⟩ := cl_Scene.s2
  obtain ⟨q_Scene_3, sl_Scene_3⟩ := cl_Scene.s3
  change WB _ _ [.sh (.adr o)] _ _
  -- 207
  refine wb_cons (ws_ret ?_)
  refine we_fld 0 cl_Scene.cls sl_Scene_0 ?_
  refine we_fldA (ns := ns_Bench) (fs := fl_Bench C_Ruler C_Rack C_Scene self1) cl_Bench.cls cl_Bench.n_scene rfl ?_
  refine we_var 0 rfl (by walk_at "vis") rfl ?_
  refine ⟨_, _, rfl, hP, ?_⟩
  refine ⟨_, _, rfl, rfl, ?_⟩
  refine ⟨_, rfl, ?_⟩
  exact h
theorem ok_Bench_enter {f : Addr} {fd : FuncData} (F : Fun K "enter" "Bench.enter" s_Bench_enter f fd) (B : Bn mg) (cl_Bench : Clo_Bench K C_Bench) : FnOk P w K mg base (L2.CX P w) 3 f fd ["self", "operation", "scene", "marked"] (spD K (FMO cx C_Bench ns_Bench (σT := S_Bench) (A := (List At) × Scn × (List (S × Scn))) (R := Unit) (fl_Bench C_Ruler C_Rack C_Scene) (fun a => [(eT eAt) a.1, (eScn C_Scene) a.2.1, (eD kZ (eScn C_Scene)) a.2.2]) (fun v => .sh (eU v)) (fun s a => m_Bench_enter s a.1 a.2.1 a.2.2))) := by
  refine def_ok F sc_Bench_enter (fun ds G post px h => ?_) (fun cdv A outer s H E F0 T hr ds GI post px h tk hp => ?_)
  · obtain ⟨_, _, _, _, rfl, _⟩ := h; rfl
  obtain ⟨self1, ⟨operation2, scene3, marked4⟩, o, fpI, rfl, hP, h⟩ := h
  have hF := Frm.refl fpI GI
  unfold m_Bench_enter at h
  try dsimp only at h
  have nd := sc_Bench_enter.nd
  change WB _ _ [.sh (.adr o), .sh ((eT eAt) operation2), .sh ((eScn C_Scene) scene3), .sh ((eD kZ (eScn C_Scene)) marked4)] _ _
  -- 218
  refine wb_cons (ws_expr ?_)
  refine we_appF (ns := ns_Bench) (fs := fl_Bench C_Ruler C_Rack C_Scene self1) (fe := (eP5 (eT eAt) (eScn C_Scene) (eD kZ (eScn C_Scene)) (eScn C_Scene) (eD kZ (eScn C_Scene)))) (xs := self1.past) cl_Bench.cls cl_Bench.n_past rfl (by intro _; rfl) ?_
  refine we_var 0 rfl (by walk_at "vis") rfl ?_
  refine ⟨_, _, rfl, hP, ?_⟩
  refine we_tup ?_
  refine wa_cons ?_
  refine we_var 1 rfl (by walk_at "vis") rfl ?_
  refine ⟨_, _, rfl, ?_⟩
  refine wa_cons ?_
  refine we_fldA (ns := ns_Bench) (fs := fl_Bench C_Ruler C_Rack C_Scene self1) cl_Bench.cls cl_Bench.n_scene rfl ?_
  refine we_var 0 rfl (by walk_at "vis") rfl ?_
  refine ⟨_, _, rfl, hP, ?_⟩
  refine ⟨_, _, rfl, ?_⟩
  refine wa_cons ?_
  refine we_fldA (ns := ns_Bench) (fs := fl_Bench C_Ruler C_Rack C_Scene self1) cl_Bench.cls cl_Bench.n_marked rfl ?_
  refine we_var 0 rfl (by walk_at "vis") rfl ?_
  refine ⟨_, _, rfl, hP, ?_⟩
  refine ⟨_, _, rfl, ?_⟩
  refine wa_cons ?_
  refine we_var 2 rfl (by walk_at "vis") rfl ?_
  refine ⟨_, _, rfl, ?_⟩
  refine wa_cons ?_
  refine we_var 3 rfl (by walk_at "vis") rfl ?_
  refine ⟨_, _, rfl, ?_⟩
  refine wa_nil ?_
  refine ⟨lt_ rfl, ?_⟩
  obtain ⟨g6, h⟩ := Out.gd h
  refine ⟨(operation2, self1.scene, self1.marked, scene3, marked4), _, rfl, rfl, g6, fun G5 hP1 hF1 => ?_⟩
  have hP : obA C_Bench o ["rack_used", "last", "scene", "marked", "past", "later"] [.sh ((eRak C_Rack C_Ruler) self1.rack_used), .sh (eI self1.last), .sh ((eScn C_Scene) self1.scene), .sh ((eD kZ (eScn C_Scene)) self1.marked), .mu (List.map (eP5 (eT eAt) (eScn C_Scene) (eD kZ (eScn C_Scene)) (eScn C_Scene) (eD kZ (eScn C_Scene))) (self1.past ++ [(operation2, self1.scene, self1.marked, scene3, marked4)])), .mu (List.map (eP5 (eT eAt) (eScn C_Scene) (eD kZ (eScn C_Scene)) (eScn C_Scene) (eD kZ (eScn C_Scene))) self1.later)] _ G5 := hP1
  have hF := hF.trans hF1
  -- 219
  refine wb_cons (ws_fldN (ns := ["rack_used", "last", "scene", "marked", "past", "later"]) (fs := [.sh ((eRak C_Rack C_Ruler) self1.rack_used), .sh (eI self1.last), .sh ((eScn C_Scene) self1.scene), .sh ((eD kZ (eScn C_Scene)) self1.marked), .mu (List.map (eP5 (eT eAt) (eScn C_Scene) (eD kZ (eScn C_Scene)) (eScn C_Scene) (eD kZ (eScn C_Scene))) (self1.past ++ [(operation2, self1.scene, self1.marked, scene3, marked4)])), .mu (List.map (eP5 (eT eAt) (eScn C_Scene) (eD kZ (eScn C_Scene)) (eScn C_Scene) (eD kZ (eScn C_Scene))) self1.later)]) cl_Bench.cls cl_Bench.n_later (by decide) ?_)
  refine we_lst ?_
  refine wa_nil ?_
  refine ⟨by decide, ?_⟩
  refine ⟨_, rfl, fun a8 ha8 => ?_⟩
  refine we_var 0 rfl (by walk_at "vis") rfl ?_
  refine ⟨_, _, rfl, rfl, hP, fun fp1 G7 hP1 hF1 => ?_⟩
  have hP : obA C_Bench o ["rack_used", "last", "scene", "marked", "past", "later"] [.sh ((eRak C_Rack C_Ruler) self1.rack_used), .sh (eI self1.last), .sh ((eScn C_Scene) self1.scene), .sh ((eD kZ (eScn C_Scene)) self1.marked), .mu (List.map (eP5 (eT eAt) (eScn C_Scene) (eD kZ (eScn C_Scene)) (eScn C_Scene) (eD kZ (eScn C_Scene))) (self1.past ++ [(operation2, self1.scene, self1.marked, scene3, marked4)])), .mu (List.map (eP5 (eT eAt) (eScn C_Scene) (eD kZ (eScn C_Scene)) (eScn C_Scene) (eD kZ (eScn C_Scene))) ([] : List ((List At × Scn × List (S × Scn) × Scn × List (S × Scn)))))] _ G7 := hP1
  have hF := hF.trans hF1
  change WB _ _ [.sh (.adr o), .sh ((eT eAt) operation2), .sh ((eScn C_Scene) scene3), .sh ((eD kZ (eScn C_Scene)) marked4)] _ _
  -- 220
  refine wb_cons (ws_asgG [] ?_)
  refine we_tup ?_
  refine wa_cons ?_
  refine we_var 2 rfl (by walk_at "vis") rfl ?_
  refine ⟨_, _, rfl, ?_⟩
  refine wa_cons ?_
  refine we_var 3 rfl (by walk_at "vis") rfl ?_
  refine ⟨_, _, rfl, ?_⟩
  refine wa_nil ?_
  refine ⟨lt_ rfl, ?_⟩
  refine ⟨_, _, rfl, ?_⟩
  refine wg_tupN rfl ?_
  refine wgs_cons ?_
  refine wg_fldA (ns := ["rack_used", "last", "scene", "marked", "past", "later"]) (fs := [.sh ((eRak C_Rack C_Ruler) self1.rack_used), .sh (eI self1.last), .sh ((eScn C_Scene) self1.scene), .sh ((eD kZ (eScn C_Scene)) self1.marked), .mu (List.map (eP5 (eT eAt) (eScn C_Scene) (eD kZ (eScn C_Scene)) (eScn C_Scene) (eD kZ (eScn C_Scene))) (self1.past ++ [(operation2, self1.scene, self1.marked, scene3, marked4)])), .mu (List.map (eP5 (eT eAt) (eScn C_Scene) (eD kZ (eScn C_Scene)) (eScn C_Scene) (eD kZ (eScn C_Scene))) ([] : List ((List At × Scn × List (S × Scn) × Scn × List (S × Scn)))))]) cl_Bench.cls cl_Bench.n_scene (by decide) ?_
  refine we_var 0 rfl (by walk_at "vis") rfl ?_
  refine ⟨_, _, rfl, hP, fun fp1 G9 hP1 hF1 => ?_⟩
  have hP : obA C_Bench o ["rack_used", "last", "scene", "marked", "past", "later"] [.sh ((eRak C_Rack C_Ruler) self1.rack_used), .sh (eI self1.last), .sh ((eScn C_Scene) ((scene3, marked4).1)), .sh ((eD kZ (eScn C_Scene)) self1.marked), .mu (List.map (eP5 (eT eAt) (eScn C_Scene) (eD kZ (eScn C_Scene)) (eScn C_Scene) (eD kZ (eScn C_Scene))) (self1.past ++ [(operation2, self1.scene, self1.marked, scene3, marked4)])), .mu (List.map (eP5 (eT eAt) (eScn C_Scene) (eD kZ (eScn C_Scene)) (eScn C_Scene) (eD kZ (eScn C_Scene))) ([] : List ((List At × Scn × List (S × Scn) × Scn × List (S × Scn)))))] _ G9 := hP1
  have hF := hF.trans hF1
  refine wgs_cons ?_
  refine wg_fldA (ns := ["rack_used", "last", "scene", "marked", "past", "later"]) (fs := [.sh ((eRak C_Rack C_Ruler) self1.rack_used), .sh (eI self1.last), .sh ((eScn C_Scene) ((scene3, marked4).1)), .sh ((eD kZ (eScn C_Scene)) self1.marked), .mu (List.map (eP5 (eT eAt) (eScn C_Scene) (eD kZ (eScn C_Scene)) (eScn C_Scene) (eD kZ (eScn C_Scene))) (self1.past ++ [(operation2, self1.scene, self1.marked, scene3, marked4)])), .mu (List.map (eP5 (eT eAt) (eScn C_Scene) (eD kZ (eScn C_Scene)) (eScn C_Scene) (eD kZ (eScn C_Scene))) ([] : List ((List At × Scn × List (S × Scn) × Scn × List (S × Scn)))))]) cl_Bench.cls cl_Bench.n_marked (by decide) ?_
  refine we_var 0 rfl (by walk_at "vis") rfl ?_
  refine ⟨_, _, rfl, hP, fun fp1 G10 hP1 hF1 => ?_⟩
  have hP : obA C_Bench o ["rack_used", "last", "scene", "marked", "past", "later"] [.sh ((eRak C_Rack C_Ruler) self1.rack_used), .sh (eI self1.last), .sh ((eScn C_Scene) ((scene3, marked4).1)), .sh ((eD kZ (eScn C_Scene)) ((scene3, marked4).2)), .mu (List.map (eP5 (eT eAt) (eScn C_Scene) (eD kZ (eScn C_Scene)) (eScn C_Scene) (eD kZ (eScn C_Scene))) (self1.past ++ [(operation2, self1.scene, self1.marked, scene3, marked4)])), .mu (List.map (eP5 (eT eAt) (eScn C_Scene) (eD kZ (eScn C_Scene)) (eScn C_Scene) (eD kZ (eScn C_Scene))) ([] : List ((List At × Scn × List (S × Scn) × Scn × List (S × Scn)))))] _ G10 := hP1
  have hF := hF.trans hF1
  refine wgs_nil ?_
  change WB _ _ [.sh (.adr o), .sh ((eT eAt) operation2), .sh ((eScn C_Scene) scene3), .sh ((eD kZ (eScn C_Scene)) marked4)] _ _
  exact wb_nil (h _ _ hP hF)
theorem ok_Bench_laid_on {f : Addr} {fd : FuncData} (F : Fun K "laid_on" "Bench.laid_on" s_Bench_laid_on f fd) (B : Bn mg) (cl_Rack : Cl_Rack K C_Rack) (cl_Ruler : Cl_Ruler K C_Ruler) (cl_Scene : Cl_Scene K C_Scene) (k_Scene : MakeD P w K mg base "Scene" C_Scene 3 ["self", "spot", "laid", "errors", "cuts"] (FMI cx (A := Int × Int × Int × (List Int)) (R := Scn) (fun a => [eI a.1, eI a.2.1, eI a.2.2.1, (eT eI) a.2.2.2]) (fun r => [.tup (r.cuts.map D.int), .int r.errors, .int r.laid, .int r.spot]) (fun a => mk_Scene a.1 a.2.1 a.2.2.1 a.2.2.2))) (cl_Bench : Clo_Bench K C_Bench) (p_Ruler_error : PropD P w K mg base C_Ruler "error" 3 (FM cx (A := Rul) (R := Int) (fun a => [(eRul C_Ruler) a]) (fun v => .sh (eI v)) (fun a => .ok (m_Ruler_error a)))) (x_Rack_getitem : ItemD P w K mg base C_Rack 3 ["self", "name"] (FM cx (A := Rak × S) (R := Rul) (fun a => [(eRak C_Rack C_Ruler) a.1, eZ a.2]) (fun v => .sh ((eRul C_Ruler) v)) (fun a => m_Rack___getitem a.1 a.2))) : FnOk P w K mg base (L2.CX P w) 6 f fd ["self", "row"] (spD K (FCO cx C_Bench ns_Bench (σT := S_Bench) (A := List ((S × Int))) (R := Scn) (fl_Bench C_Ruler C_Rack C_Scene) (fun a => [(eL (eP eZ eI)) a]) (fun v => .sh ((eScn C_Scene) v)) (fun s a => m_Bench_laid_on s a))) := by
  refine def_ok F sc_Bench_laid_on (fun ds G post px h => ?_) (fun cdv A outer s H E F0 T hr ds GI post px h tk hp => ?_)
  · obtain ⟨_, _, _, _, rfl, _⟩ := h; rfl
  obtain ⟨self1, row2, o, fpI, rfl, hP, h⟩ := h
  unfold m_Bench_laid_on at h
  try dsimp only at h
  have nd := sc_Bench_laid_on.nd
  obtain ⟨q_Rack_0, sl_Rack_0⟩ := cl_Rack.s0
  obtain ⟨q_Ruler_0, sl_Ruler_0⟩ := cl_Ruler.s0
  obtain ⟨q_Ruler_1, sl_Ruler_1⟩ := cl_Ruler.s1
  obtain ⟨q_Scene_0, sl_Scene_0⟩ := cl_Scene.s0
  obtain ⟨q_Scene_1, sl_Scene_1⟩ := cl_Scene.s1
  obtain ⟨q_Scene_2, sl_Scene_2⟩ := cl_Scene.s2
  obtain ⟨q_Scene_3, sl_Scene_3⟩ := cl_Scene.s3
  change WB _ _ [.sh (.adr o), .sh ((eL (eP eZ eI)) row2), .no, .no, .no, .no] _ _
  -- 223
  refine wb_cons (ws_par 2 3 rfl nd rfl rfl (by decide) rfl rfl (by rfl) ?_)
  refine we_fld 3 cl_Scene.cls sl_Scene_3 ?_
  refine we_fldA (ns := ns_Bench) (fs := fl_Bench C_Ruler C_Rack C_Scene self1) cl_Bench.cls cl_Bench.n_scene rfl ?_
  refine we_var 0 rfl (by walk_at "vis") rfl ?_
  refine ⟨_, _, rfl, hP, ?_⟩
  refine ⟨_, _, rfl, rfl, ?_⟩
  refine ⟨_, _, rfl, ?_⟩
  refine we_fld 1 cl_Scene.cls sl_Scene_1 ?_
  refine we_fldA (ns := ns_Bench) (fs := fl_Bench C_Ruler C_Rack C_Scene self1) cl_Bench.cls cl_Bench.n_scene rfl ?_
  refine we_var 0 rfl (by walk_at "vis") rfl ?_
  refine ⟨_, _, rfl, hP, ?_⟩
  refine ⟨_, _, rfl, rfl, ?_⟩
  refine ⟨_, _, rfl, lt_ rfl, lt_ rfl, ?_⟩
  refine Hold.h ?_
  refine wb_letH h (fun spot3 => [.sh (.adr o), .sh ((eL (eP eZ eI)) row2), .sh (eI spot3), .sh (eI self1.scene.errors), .no, .no]) rfl fun spot3 h => ?_
  refine Hold.h ?_
  refine wb_letH h (fun errors4 => [.sh (.adr o), .sh ((eL (eP eZ eI)) row2), .sh (eI spot3), .sh (eI errors4), .no, .no]) rfl fun errors4 h => ?_
  -- 224
  refine Hold.h ?_
  refine wb_forOH (β := Scn) [4, 5] (σT := Int × Int) (fun s5 => [.sh (.adr o), .sh ((eL (eP eZ eI)) row2), .sh (eI s5.1), .sh (eI s5.2), .no, .no]) (fun s5 => GI) (eP eZ eI) hp rfl ?_
  refine ti_lst (f := (eP eZ eI)) ?_
  refine we_var 1 rfl (by walk_at "vis") rfl ?_
  refine ⟨row2, _, rfl, fun hl8 => ?_⟩
  refine ⟨row2, (spot3, errors4), _, _, _, _, rfl, (.eq (.eq (.eq (.eq (.no (.no .nil)))))), rfl, h, fun s5 x7 Q' h => ?_, fun s6 h => ?_⟩
  · skip
    refine wg_pair 4 5 rfl nd rfl rfl (by walk_at "vis") (by walk_at "vis") (by decide) (by decide) (lt_ rfl) (lt_ rfl) ?_
    change WB _ _ [.sh (.adr o), .sh ((eL (eP eZ eI)) row2), .sh (eI s5.1), .sh (eI s5.2), .sh (eZ x7.1), .sh (eI x7.2)] _ _
    -- 225
    refine wb_cons (ws_augI 2 nd rfl (by walk_at "vis") rfl ?_)
    refine we_var 5 rfl (by walk_at "vis") rfl ?_
    refine ⟨lt_ rfl, _, rfl, ?_⟩
    refine Hold.h ?_
    refine wb_letH h (fun spot9 => [.sh (.adr o), .sh ((eL (eP eZ eI)) row2), .sh (eI spot9), .sh (eI s5.2), .sh (eZ x7.1), .sh (eI x7.2)]) rfl fun spot9 h => ?_
    -- 226
    refine wb_cons (ws_augI 3 nd rfl (by walk_at "vis") rfl ?_)
    refine we_prop cl_Ruler.cls p_Ruler_error hr ?_
    refine we_item x_Rack_getitem hr ?_
    refine we_fldA (ns := ns_Bench) (fs := fl_Bench C_Ruler C_Rack C_Scene self1) cl_Bench.cls cl_Bench.n_rack_used rfl ?_
    refine we_var 0 rfl (by walk_at "vis") rfl ?_
    refine ⟨_, _, rfl, hP, ?_⟩
    refine we_var 4 rfl (by walk_at "vis") rfl ?_
    refine ⟨_, _, _, rfl, rfl, ⟨(self1.rack_used, x7.1), rfl, (Out.nx (Out.sb h)).imp (fun r10 h => ?_) (fun _ he => he)⟩⟩
    refine ⟨_, rfl, r10, rfl, ?_⟩
    refine ⟨lt_ rfl, _, rfl, ?_⟩
    refine Hold.h ?_
    refine wb_letH h (fun errors12 => [.sh (.adr o), .sh ((eL (eP eZ eI)) row2), .sh (eI spot9), .sh (eI errors12), .sh (eZ x7.1), .sh (eI x7.2)]) rfl fun errors12 h => ?_
    exact wb_nil ⟨(spot9, errors12), (.eq (.eq (.eq (.eq (.no (.no .nil)))))), rfl, h⟩
  -- 227
  refine wb_cons (ws_ret ?_)
  refine we_make tk k_Scene hr rfl ?_
  refine wa_cons ?_
  refine we_var 2 rfl (by walk_at "vis") rfl ?_
  refine ⟨_, _, rfl, ?_⟩
  refine wa_cons ?_
  refine we_bin ?_
  refine we_fld 2 cl_Scene.cls sl_Scene_2 ?_
  refine we_fldA (ns := ns_Bench) (fs := fl_Bench C_Ruler C_Rack C_Scene self1) cl_Bench.cls cl_Bench.n_scene rfl ?_
  refine we_var 0 rfl (by walk_at "vis") rfl ?_
  refine ⟨_, _, rfl, hP, ?_⟩
  refine ⟨_, _, rfl, rfl, ?_⟩
  refine we_b1 (x := "len") (id := "len") rfl B.len bt_len ?_
  refine we_var 1 rfl (by walk_at "vis") rfl ?_
  refine ⟨_, .inl rfl, ?_⟩
  refine t_len (f := (eP eZ eI)) row2 ?_
  refine ⟨_, _, .inl rfl, .inl rfl, ?_⟩
  refine opw_add ?_
  refine ⟨_, _, rfl, ?_⟩
  refine wa_cons ?_
  refine we_var 3 rfl (by walk_at "vis") rfl ?_
  refine ⟨_, _, rfl, ?_⟩
  refine wa_cons ?_
  refine we_fld 0 cl_Scene.cls sl_Scene_0 ?_
  refine we_fldA (ns := ns_Bench) (fs := fl_Bench C_Ruler C_Rack C_Scene self1) cl_Bench.cls cl_Bench.n_scene rfl ?_
  refine we_var 0 rfl (by walk_at "vis") rfl ?_
  refine ⟨_, _, rfl, hP, ?_⟩
  refine ⟨_, _, rfl, rfl, ?_⟩
  refine ⟨_, _, rfl, ?_⟩
  refine wa_nil ?_
  refine ⟨(s6.1, self1.scene.laid + ((row2).length : Int), s6.2, self1.scene.cuts), rfl, (Out.sb h).imp (fun r13 h => ?_) (fun _ he => he)⟩
  refine ⟨_, rfl, ?_⟩
  exact h
theorem ok_Bench_lay {f : Addr} {fd : FuncData} (F : Fun K "lay" "Bench.lay" s_Bench_lay f fd) (B : Bn mg) (c_is_number : Cal P w K mg base "is_number" 3 ["value", "lowest", "highest"] (FM cx (A := Int × Int × Int) (R := Bool) (fun a => [eI a.1, eI a.2.1, eI a.2.2]) (fun v => .sh (eB v)) (fun a => .ok (m_is_number a.1 a.2.1 a.2.2)))) (cl_Rack : Cl_Rack K C_Rack) (cl_Ruler : Cl_Ruler K C_Ruler) (cl_Scene : Cl_Scene K C_Scene) {t_LAY : Tok} (m_LAY : mg "LAY" = some (.str "lay" t_LAY)) (cl_Bench : Clo_Bench K C_Bench) (d_Bench_enter : MethD P w K mg base C_Bench "enter" 3 ["self", "operation", "scene", "marked"] (FMO cx C_Bench ns_Bench (σT := S_Bench) (A := (List At) × Scn × (List (S × Scn))) (R := Unit) (fl_Bench C_Ruler C_Rack C_Scene) (fun a => [(eT eAt) a.1, (eScn C_Scene) a.2.1, (eD kZ (eScn C_Scene)) a.2.2]) (fun v => .sh (eU v)) (fun s a => m_Bench_enter s a.1 a.2.1 a.2.2))) (d_Bench_laid_on : MethD P w K mg base C_Bench "laid_on" 6 ["self", "row"] (FCO cx C_Bench ns_Bench (σT := S_Bench) (A := List ((S × Int))) (R := Scn) (fl_Bench C_Ruler C_Rack C_Scene) (fun a => [(eL (eP eZ eI)) a]) (fun v => .sh ((eScn C_Scene) v)) (fun s a => m_Bench_laid_on s a))) (p_Ruler_length : PropD P w K mg base C_Ruler "length" 3 (FM cx (A := Rul) (R := Int) (fun a => [(eRul C_Ruler) a]) (fun v => .sh (eI v)) (fun a => m_Ruler_length a))) (p_Ruler_spans : PropD P w K mg base C_Ruler "spans" 5 (FM cx (A := Rul) (R := List Int) (fun a => [(eRul C_Ruler) a]) (fun v => .sh ((eT eI) v)) (fun a => m_Ruler_spans a))) (x_Rack_getitem : ItemD P w K mg base C_Rack 3 ["self", "name"] (FM cx (A := Rak × S) (R := Rul) (fun a => [(eRak C_Rack C_Ruler) a.1, eZ a.2]) (fun v => .sh ((eRul C_Ruler) v)) (fun a => m_Rack___getitem a.1 a.2))) : FnOk P w K mg base (L2.CX P w) 8 f fd ["self", "name", "step"] (spD K (FMO cx C_Bench ns_Bench (σT := S_Bench) (A := S × Int) (R := Int) (fl_Bench C_Ruler C_Rack C_Scene) (fun a => [eZ a.1, eI a.2]) (fun v => .sh (eI v)) (fun s a => m_Bench_lay s a.1 a.2))) := by
  refine def_ok F sc_Bench_lay (fun ds G post px h => ?_) (fun cdv A outer s H E F0 T hr ds GI post px h tk hp => ?_)
  · obtain ⟨_, _, _, _, rfl, _⟩ := h; rfl
  obtain ⟨self1, ⟨name2, step3⟩, o, fpI, rfl, hP, h⟩ := h
  have hF := Frm.refl fpI GI
  unfold m_Bench_lay at h
  try dsimp only at h
  have nd := sc_Bench_lay.nd
  obtain ⟨q_Rack_0, sl_Rack_0⟩ := cl_Rack.s0
  obtain ⟨q_Ruler_0, sl_Ruler_0⟩ := cl_Ruler.s0
  obtain ⟨q_Ruler_1, sl_Ruler_1⟩ := cl_Ruler.s1
  obtain ⟨q_Scene_0, sl_Scene_0⟩ := cl_Scene.s0
  obtain ⟨q_Scene_1, sl_Scene_1⟩ := cl_Scene.s1
  obtain ⟨q_Scene_2, sl_Scene_2⟩ := cl_Scene.s2
  obtain ⟨q_Scene_3, sl_Scene_3⟩ := cl_Scene.s3
  change WB _ _ [.sh (.adr o), .sh (eZ name2), .sh (eI step3), .no] _ _
  -- 230
  refine wb_cons ?_
  refine Hold.h ?_
  refine ws_setH 3 nd rfl (by walk_at "vis") ?_
  refine we_item x_Rack_getitem hr ?_
  refine we_fldA (ns := ns_Bench) (fs := fl_Bench C_Ruler C_Rack C_Scene self1) cl_Bench.cls cl_Bench.n_rack_used rfl ?_
  refine we_var 0 rfl (by walk_at "vis") rfl ?_
  refine ⟨_, _, rfl, hP, ?_⟩
  refine we_var 1 rfl (by walk_at "vis") rfl ?_
  refine ⟨_, _, _, rfl, rfl, ⟨(self1.rack_used, name2), rfl, (Out.nx (Out.sb h)).imp (fun r4 h => ?_) (fun _ he => he)⟩⟩
  refine ⟨lt_ rfl, _, rfl, ?_⟩
  change WB _ _ [.sh (.adr o), .sh (eZ name2), .sh (eI step3), .sh ((eRul C_Ruler) r4)] _ _
  -- 231
  refine wb_cons (ws_if ?_)
  refine wt_w ?_
  refine ww_orN ?_
  refine wt_not ?_
  refine wt_val (fun _ => rfl) ?_
  refine we_cal tk c_is_number hr rfl ?_
  refine wa_cons ?_
  refine we_var 2 rfl (by walk_at "vis") rfl ?_
  refine ⟨_, _, rfl, ?_⟩
  refine wa_cons ?_
  refine we_bin ?_
  refine we_int ?_
  refine we_prop cl_Ruler.cls p_Ruler_length hr ?_
  refine we_var 3 rfl (by walk_at "vis") rfl ?_
  refine ⟨_, rfl, r4, rfl, (Out.nx (Out.sb h)).imp (fun r6 h => ?_) (fun _ he => he)⟩
  refine ⟨_, _, .inl rfl, .inl rfl, ?_⟩
  refine opw_sub ?_
  refine ⟨_, _, rfl, ?_⟩
  refine wa_cons ?_
  refine we_prop cl_Ruler.cls p_Ruler_length hr ?_
  refine we_var 3 rfl (by walk_at "vis") rfl ?_
  refine ⟨_, rfl, r4, rfl, (Out.nx (Out.sb h)).imp (fun r7 h => ?_) (fun _ he => he)⟩
  refine ⟨_, _, rfl, ?_⟩
  refine wa_nil ?_
  refine ⟨(step3, (0 : Int) - r6, r7), rfl, ?_⟩
  refine ⟨_, rfl, ?_⟩
  refine ⟨_, _, _, _, _, h, fun _ Q' h => ?_, fun c5 h => ?_⟩
  · skip
    refine ww_or1 ?_
    refine wt_cmp rfl ?_
    refine we_b1 (x := "abs") (id := "abs") rfl B.abs bt_abs ?_
    refine we_var 2 rfl (by walk_at "vis") rfl ?_
    refine ⟨_, .inl rfl, ?_⟩
    refine c_abs ?_
    refine we_prop cl_Ruler.cls p_Ruler_spans hr ?_
    refine we_var 3 rfl (by walk_at "vis") rfl ?_
    refine ⟨_, rfl, r4, rfl, (Out.nx (Out.sb h)).imp (fun r9 h => ?_) (fun _ he => he)⟩
    refine ⟨_, _, .inl rfl, .inl rfl, ?_⟩
    refine opw_ninT ?_
    refine ⟨_, rfl, ?_⟩
    exact ⟨rfl, rfl, h⟩
  refine ⟨fun hc => ?_, fun hc => ?_⟩
  · skip
    have h := (Out.iteb h).1 hc
    -- 232
    exact h.elim
  have h := (Out.iteb h).2 hc
  refine wb_nil ?_
  -- 233
  refine wb_cons (ws_if ?_)
  refine wt_not ?_
  refine wt_chainI (fun i j R q => opw_le q) (fun i j R q => opw_le q) ?_
  refine we_int ?_
  refine we_bin ?_
  refine we_fld 3 cl_Scene.cls sl_Scene_3 ?_
  refine we_fldA (ns := ns_Bench) (fs := fl_Bench C_Ruler C_Rack C_Scene self1) cl_Bench.cls cl_Bench.n_scene rfl ?_
  refine we_var 0 rfl (by walk_at "vis") rfl ?_
  refine ⟨_, _, rfl, hP, ?_⟩
  refine ⟨_, _, rfl, rfl, ?_⟩
  refine we_var 2 rfl (by walk_at "vis") rfl ?_
  refine ⟨_, _, .inl rfl, .inl rfl, ?_⟩
  refine opw_add ?_
  refine ⟨_, _, self1.last, rfl, rfl, fun _ => ?_, ?_⟩
  · skip
    refine we_fldA (ns := ns_Bench) (fs := fl_Bench C_Ruler C_Rack C_Scene self1) cl_Bench.cls cl_Bench.n_last rfl ?_
    refine we_var 0 rfl (by walk_at "vis") rfl ?_
    refine ⟨_, _, rfl, hP, ?_⟩
    exact ⟨rfl, rfl, rfl⟩
  refine ⟨fun hc => ?_, fun hc => ?_⟩
  · skip
    have h := (Out.iteb h).1 hc
    -- 234
    exact h.elim
  have h := (Out.iteb h).2 hc
  refine wb_nil ?_
  -- 235
  refine wb_cons (ws_expr ?_)
  refine we_methM tk cl_Bench.cls d_Bench_enter hr rfl ?_
  refine we_var 0 rfl (by walk_at "vis") rfl ?_
  refine ⟨self1, _, _, rfl, hP, ?_⟩
  refine wa_cons ?_
  refine we_tup ?_
  refine wa_cons ?_
  refine we_globS rfl m_LAY ?_
  refine ⟨_, _, rfl, ?_⟩
  refine wa_cons ?_
  refine we_var 1 rfl (by walk_at "vis") rfl ?_
  refine ⟨_, _, rfl, ?_⟩
  refine wa_cons ?_
  refine we_var 2 rfl (by walk_at "vis") rfl ?_
  refine ⟨_, _, rfl, ?_⟩
  refine wa_nil ?_
  refine ⟨lt_ rfl, ?_⟩
  refine ⟨_, _, rfl, ?_⟩
  refine wa_cons ?_
  refine we_methC tk cl_Bench.cls d_Bench_laid_on hr rfl ?_
  refine we_var 0 rfl (by walk_at "vis") rfl ?_
  refine ⟨self1, _, _, rfl, hP, ?_⟩
  refine wa_cons ?_
  refine we_lst ?_
  refine wa_cons ?_
  refine we_tup ?_
  refine wa_cons ?_
  refine we_var 1 rfl (by walk_at "vis") rfl ?_
  refine ⟨_, _, rfl, ?_⟩
  refine wa_cons ?_
  refine we_var 2 rfl (by walk_at "vis") rfl ?_
  refine ⟨_, _, rfl, ?_⟩
  refine wa_nil ?_
  refine ⟨lt_ rfl, ?_⟩
  refine ⟨_, _, rfl, ?_⟩
  refine wa_nil ?_
  refine ⟨lt_ rfl, ?_⟩
  refine ⟨_, _, rfl, ?_⟩
  refine wa_nil ?_
  refine ⟨[(name2, step3)], _, rfl, hP, (Out.sb h).imp (fun r10 h => ?_) (fun _ he => he _ _ hP hF)⟩
  refine ⟨_, _, rfl, ?_⟩
  refine wa_cons ?_
  refine we_fldA (ns := ns_Bench) (fs := fl_Bench C_Ruler C_Rack C_Scene self1) cl_Bench.cls cl_Bench.n_marked rfl ?_
  refine we_var 0 rfl (by walk_at "vis") rfl ?_
  refine ⟨_, _, rfl, hP, ?_⟩
  refine ⟨_, _, rfl, ?_⟩
  refine wa_nil ?_
  refine ⟨([At.s z_lay, At.s name2, At.i step3], r10, self1.marked), _, rfl, hP, (Out.sb h).imp (fun r11 h fp1 G12 hP1 hF1 => ?_) (fun _ he fp' G' hP2 hF2 => he _ _ hP2 (hF.trans hF2))⟩
  have hP : obA C_Bench o ns_Bench (fl_Bench C_Ruler C_Rack C_Scene r11.2) _ G12 := hP1
  have hF := hF.trans hF1
  -- 236
  refine wb_cons (ws_ret ?_)
  refine we_fld 3 cl_Scene.cls sl_Scene_3 ?_
  refine we_fldA (ns := ns_Bench) (fs := fl_Bench C_Ruler C_Rack C_Scene r11.2) cl_Bench.cls cl_Bench.n_scene rfl ?_
  refine we_var 0 rfl (by walk_at "vis") rfl ?_
  refine ⟨_, _, rfl, hP, ?_⟩
  refine ⟨_, _, rfl, rfl, ?_⟩
  refine ⟨_, rfl, ?_⟩
  exact h _ _ hP hF
theorem ok_Bench_scratch {f : Addr} {fd : FuncData} (F : Fun K "scratch" "Bench.scratch" s_Bench_scratch f fd) (B : Bn mg) (cl_Scene : Cl_Scene K C_Scene) (k_Scene : MakeD P w K mg base "Scene" C_Scene 3 ["self", "spot", "laid", "errors", "cuts"] (FMI cx (A := Int × Int × Int × (List Int)) (R := Scn) (fun a => [eI a.1, eI a.2.1, eI a.2.2.1, (eT eI) a.2.2.2]) (fun r => [.tup (r.cuts.map D.int), .int r.errors, .int r.laid, .int r.spot]) (fun a => mk_Scene a.1 a.2.1 a.2.2.1 a.2.2.2))) {t_SCRATCH : Tok} (m_SCRATCH : mg "SCRATCH" = some (.str "scratch" t_SCRATCH)) (cl_Bench : Clo_Bench K C_Bench) (d_Bench_enter : MethD P w K mg base C_Bench "enter" 3 ["self", "operation", "scene", "marked"] (FMO cx C_Bench ns_Bench (σT := S_Bench) (A := (List At) × Scn × (List (S × Scn))) (R := Unit) (fl_Bench C_Ruler C_Rack C_Scene) (fun a => [(eT eAt) a.1, (eScn C_Scene) a.2.1, (eD kZ (eScn C_Scene)) a.2.2]) (fun v => .sh (eU v)) (fun s a => m_Bench_enter s a.1 a.2.1 a.2.2))) : FnOk P w K mg base (L2.CX P w) 6 f fd ["self"] (spD K (FMO cx C_Bench ns_Bench (σT := S_Bench) (A := Unit) (R := Bool) (fl_Bench C_Ruler C_Rack C_Scene) (fun _ => []) (fun v => .sh (eB v)) (fun s _ => m_Bench_scratch s))) := by
  refine def_ok F sc_Bench_scratch (fun ds G post px h => ?_) (fun cdv A outer s H E F0 T hr ds GI post px h tk hp => ?_)
  · obtain ⟨_, _, _, _, rfl, _⟩ := h; rfl
  obtain ⟨self1, _, o, fpI, rfl, hP, h⟩ := h
  have hF := Frm.refl fpI GI
  unfold m_Bench_scratch at h
  try dsimp only at h
  have nd := sc_Bench_scratch.nd
  obtain ⟨q_Scene_0, sl_Scene_0⟩ := cl_Scene.s0
  obtain ⟨q_Scene_1, sl_Scene_1⟩ := cl_Scene.s1
  obtain ⟨q_Scene_2, sl_Scene_2⟩ := cl_Scene.s2
  obtain ⟨q_Scene_3, sl_Scene_3⟩ := cl_Scene.s3
  change WB _ _ [.sh (.adr o), .no, .no, .no] _ _
  -- 242
  refine wb_cons ?_
  refine Hold.h ?_
  refine ws_setH 1 nd rfl (by walk_at "vis") ?_
  refine we_fldA (ns := ns_Bench) (fs := fl_Bench C_Ruler C_Rack C_Scene self1) cl_Bench.cls cl_Bench.n_scene rfl ?_
  refine we_var 0 rfl (by walk_at "vis") rfl ?_
  refine ⟨_, _, rfl, hP, ?_⟩
  refine ⟨lt_ rfl, _, rfl, ?_⟩
  change WB _ _ [.sh (.adr o), .sh ((eScn C_Scene) self1.scene), .no, .no] _ _
  -- 243
  refine wb_cons ?_
  refine Hold.h ?_
  refine ws_setH 2 nd rfl (by walk_at "vis") ?_
  refine we_cmp rfl ?_
  refine we_fld 3 cl_Scene.cls sl_Scene_3 ?_
  refine we_var 1 rfl (by walk_at "vis") rfl ?_
  refine ⟨_, _, rfl, rfl, ?_⟩
  refine we_fld 0 cl_Scene.cls sl_Scene_0 ?_
  refine we_var 1 rfl (by walk_at "vis") rfl ?_
  refine ⟨_, _, rfl, rfl, ?_⟩
  refine ⟨_, _, .inl rfl, .inl rfl, ?_⟩
  refine opw_ninT ?_
  refine ⟨lt_ rfl, _, rfl, ?_⟩
  refine Hold.h ?_
  refine wb_letH h (fun is_new2 => [.sh (.adr o), .sh ((eScn C_Scene) self1.scene), .sh (eB is_new2), .no]) rfl fun is_new2 h => ?_
  -- 244
  refine wb_cons ?_
  refine Hold.h ?_
  refine ws_setH 3 nd rfl (by walk_at "vis") ?_
  refine we_ifN (eT eI) ?_
  refine wt_val (fun _ => rfl) ?_
  refine we_var 2 rfl (by walk_at "vis") rfl ?_
  refine ⟨_, rfl, ?_⟩
  refine ⟨_, _, _, _, _, _, h, fun _ Q' h => ?_, fun _ Q' h => ?_, fun i3 h => ?_⟩
  · skip
    refine we_t1 (x := "tuple") (id := "tuple") rfl B.tuple bt_tuple ?_
    refine we_b1 (x := "sorted") (id := "sorted") rfl B.sorted bt_sorted ?_
    refine we_bin ?_
    refine we_fld 0 cl_Scene.cls sl_Scene_0 ?_
    refine we_var 1 rfl (by walk_at "vis") rfl ?_
    refine ⟨_, _, rfl, rfl, ?_⟩
    refine we_tup ?_
    refine wa_cons ?_
    refine we_fld 3 cl_Scene.cls sl_Scene_3 ?_
    refine we_var 1 rfl (by walk_at "vis") rfl ?_
    refine ⟨_, _, rfl, rfl, ?_⟩
    refine ⟨_, _, rfl, ?_⟩
    refine wa_nil ?_
    refine ⟨lt_ rfl, ?_⟩
    obtain ⟨g4, h⟩ := Out.gd h
    refine ⟨_, _, .inl rfl, .inl rfl, ?_⟩
    refine t_catT (f := eI) self1.scene.cuts [self1.scene.spot] g4 ?_
    refine ⟨_, .inl rfl, ?_⟩
    refine t_sortedTI hr.units (self1.scene.cuts ++ [self1.scene.spot]) ?_
    refine ⟨_, .inl rfl, ?_⟩
    refine c_tuple ?_
    exact ⟨_, rfl, rfl, rfl, h⟩
  · skip
    refine we_fld 0 cl_Scene.cls sl_Scene_0 ?_
    refine we_var 1 rfl (by walk_at "vis") rfl ?_
    refine ⟨_, _, rfl, rfl, ?_⟩
    exact ⟨_, rfl, rfl, rfl, h⟩
  refine ⟨lt_ rfl, _, rfl, ?_⟩
  change WB _ _ [.sh (.adr o), .sh ((eScn C_Scene) self1.scene), .sh (eB is_new2), .sh ((eT eI) i3)] _ _
  -- 245
  refine wb_cons (ws_expr ?_)
  refine we_methM tk cl_Bench.cls d_Bench_enter hr rfl ?_
  refine we_var 0 rfl (by walk_at "vis") rfl ?_
  refine ⟨self1, _, _, rfl, hP, ?_⟩
  refine wa_cons ?_
  refine we_tup ?_
  refine wa_cons ?_
  refine we_globS rfl m_SCRATCH ?_
  refine ⟨_, _, rfl, ?_⟩
  refine wa_nil ?_
  refine ⟨lt_ rfl, ?_⟩
  refine ⟨_, _, rfl, ?_⟩
  refine wa_cons ?_
  refine we_make tk k_Scene hr rfl ?_
  refine wa_cons ?_
  refine we_fld 3 cl_Scene.cls sl_Scene_3 ?_
  refine we_var 1 rfl (by walk_at "vis") rfl ?_
  refine ⟨_, _, rfl, rfl, ?_⟩
  refine ⟨_, _, rfl, ?_⟩
  refine wa_cons ?_
  refine we_fld 2 cl_Scene.cls sl_Scene_2 ?_
  refine we_var 1 rfl (by walk_at "vis") rfl ?_
  refine ⟨_, _, rfl, rfl, ?_⟩
  refine ⟨_, _, rfl, ?_⟩
  refine wa_cons ?_
  refine we_fld 1 cl_Scene.cls sl_Scene_1 ?_
  refine we_var 1 rfl (by walk_at "vis") rfl ?_
  refine ⟨_, _, rfl, rfl, ?_⟩
  refine ⟨_, _, rfl, ?_⟩
  refine wa_cons ?_
  refine we_var 3 rfl (by walk_at "vis") rfl ?_
  refine ⟨_, _, rfl, ?_⟩
  refine wa_nil ?_
  refine ⟨(self1.scene.spot, self1.scene.laid, self1.scene.errors, i3), rfl, (Out.sb h).imp (fun r5 h => ?_) (fun _ he => he _ _ hP hF)⟩
  refine ⟨_, _, rfl, ?_⟩
  refine wa_cons ?_
  refine we_fldA (ns := ns_Bench) (fs := fl_Bench C_Ruler C_Rack C_Scene self1) cl_Bench.cls cl_Bench.n_marked rfl ?_
  refine we_var 0 rfl (by walk_at "vis") rfl ?_
  refine ⟨_, _, rfl, hP, ?_⟩
  refine ⟨_, _, rfl, ?_⟩
  refine wa_nil ?_
  refine ⟨([At.s z_scratch], r5, self1.marked), _, rfl, hP, (Out.sb h).imp (fun r6 h fp1 G7 hP1 hF1 => ?_) (fun _ he fp' G' hP2 hF2 => he _ _ hP2 (hF.trans hF2))⟩
  have hP : obA C_Bench o ns_Bench (fl_Bench C_Ruler C_Rack C_Scene r6.2) _ G7 := hP1
  have hF := hF.trans hF1
  -- 246
  refine wb_cons (ws_ret ?_)
  refine we_var 2 rfl (by walk_at "vis") rfl ?_
  refine ⟨_, rfl, ?_⟩
  exact h _ _ hP hF
theorem ok_drawing {f : Addr} {fd : FuncData} (F : Fun K "drawing" "drawing" s_drawing f fd) (B : Bn mg) (cl_Ruler : Cl_Ruler K C_Ruler) {t_BETWEEN : Tok} (m_BETWEEN : mg "BETWEEN" = some (.str "-" t_BETWEEN)) {t_MARK_SIGN : Tok} (m_MARK_SIGN : mg "MARK_SIGN" = some (.str "|" t_MARK_SIGN)) {t_MAX_DRAWN : Tok} (m_MAX_DRAWN : mg "MAX_DRAWN" = some (.int 60 t_MAX_DRAWN)) (p_Ruler_length : PropD P w K mg base C_Ruler "length" 3 (FM cx (A := Rul) (R := Int) (fun a => [(eRul C_Ruler) a]) (fun v => .sh (eI v)) (fun a => m_Ruler_length a))) (p_Ruler_marks : PropD P w K mg base C_Ruler "marks" 3 (FM cx (A := Rul) (R := List Int) (fun a => [(eRul C_Ruler) a]) (fun v => .sh ((eT eI) v)) (fun a => .ok (m_Ruler_marks a)))) : FnOk P w K mg base (L2.CX P w) 6 f fd ["ruler"] (spD K (FM cx (A := Rul) (R := S) (fun a => [(eRul C_Ruler) a]) (fun v => .sh (eZ v)) (fun a => m_drawing a))) := by
  refine def_ok F sc_drawing (fun ds G post px h => ?_) (fun cdv A outer s H E F0 T hr ds G post px h tk hp => ?_)
  · obtain ⟨_, rfl, _⟩ := h; rfl
  obtain ⟨ruler1, rfl, h⟩ := h
  unfold m_drawing at h
  try dsimp only at h
  have nd := sc_drawing.nd
  obtain ⟨q_Ruler_0, sl_Ruler_0⟩ := cl_Ruler.s0
  obtain ⟨q_Ruler_1, sl_Ruler_1⟩ := cl_Ruler.s1
  change WB _ _ [.sh ((eRul C_Ruler) ruler1), .no, .no, .no] _ _
  -- 12
  refine wb_cons ?_
  refine Hold.h ?_
  refine ws_setH 1 nd rfl (by walk_at "vis") ?_
  refine we_globS rfl m_MARK_SIGN ?_
  refine ⟨lt_ rfl, _, rfl, ?_⟩
  change WB _ _ [.sh ((eRul C_Ruler) ruler1), .sh (eZ z__), .no, .no] _ _
  -- 13
  refine Hold.h ?_
  refine wb_forOH (β := S) [2, 3] (σT := S) (fun s2 => [.sh ((eRul C_Ruler) ruler1), .sh (eZ s2), .no, .no]) (fun s2 => G) (eP eI eI) hp rfl ?_
  refine ti_zipT (f := eI) (g := eI) rfl B.zip ?_
  refine wa_cons ?_
  refine we_prop cl_Ruler.cls p_Ruler_marks hr ?_
  refine we_var 0 rfl (by walk_at "vis") rfl ?_
  refine ⟨_, rfl, ruler1, rfl, ?_⟩
  refine ⟨_, _, rfl, ?_⟩
  refine wa_cons ?_
  refine we_slice ?_
  refine we_prop cl_Ruler.cls p_Ruler_marks hr ?_
  refine we_var 0 rfl (by walk_at "vis") rfl ?_
  refine ⟨_, rfl, ruler1, rfl, ?_⟩
  refine wo_some ?_
  refine we_int ?_
  refine ⟨_, rfl, ?_⟩
  refine wo_none ?_
  refine ⟨_, .inl rfl, ?_⟩
  refine t_slT (f := eI) (xs := m_Ruler_marks ruler1) ?_
  refine ⟨_, _, rfl, ?_⟩
  refine wa_nil ?_
  obtain ⟨g7, h⟩ := Out.gd h
  refine ⟨(m_Ruler_marks ruler1), (pcut (m_Ruler_marks ruler1) (some (1 : Int)) none), rfl, g7, fun hl8 => ?_⟩
  refine ⟨((m_Ruler_marks ruler1).zip (pcut (m_Ruler_marks ruler1) (some (1 : Int)) none)), z__, _, _, _, _, rfl, (.eq (.eq (.no (.no .nil)))), rfl, h, fun s2 x4 Q' h => ?_, fun s3 h => ?_⟩
  · skip
    refine wg_pair 2 3 rfl nd rfl rfl (by walk_at "vis") (by walk_at "vis") (by decide) (by decide) (lt_ rfl) (lt_ rfl) ?_
    change WB _ _ [.sh ((eRul C_Ruler) ruler1), .sh (eZ s2), .sh (eI x4.1), .sh (eI x4.2)] _ _
    -- 14
    refine wb_cons (ws_augT 1 (n := s2) nd rfl (by walk_at "vis") rfl ?_)
    refine we_ifN eZ ?_
    refine wt_cmp (nomark _) ?_
    refine we_prop cl_Ruler.cls p_Ruler_length hr ?_
    refine we_var 0 rfl (by walk_at "vis") rfl ?_
    refine ⟨_, rfl, ruler1, rfl, (Out.nx (Out.sb h)).imp (fun r10 h => ?_) (fun _ he => he)⟩
    refine we_globI rfl m_MAX_DRAWN ?_
    refine ⟨_, _, .inl rfl, .inl rfl, ?_⟩
    refine opw_le ?_
    refine ⟨_, rfl, ?_⟩
    refine ⟨_, _, _, _, _, _, h, fun _ Q' h => ?_, fun _ Q' h => ?_, fun i9 h => ?_⟩
    · skip
      refine we_bin ?_
      refine we_globS rfl m_BETWEEN ?_
      refine we_bin ?_
      refine we_bin ?_
      refine we_var 3 rfl (by walk_at "vis") rfl ?_
      refine we_var 2 rfl (by walk_at "vis") rfl ?_
      refine ⟨_, _, .inl rfl, .inl rfl, ?_⟩
      refine opw_sub ?_
      refine we_int ?_
      refine ⟨_, _, .inl rfl, .inl rfl, ?_⟩
      refine opw_sub ?_
      obtain ⟨g11, h⟩ := Out.gd h
      refine ⟨_, _, .inl rfl, .inl rfl, ?_⟩
      refine t_mulS z___ ((x4.2 - x4.1) - (1 : Int)) g11 ?_
      exact ⟨_, rfl, rfl, rfl, h⟩
    · skip
      refine we_t1 (x := "str") (id := "str") rfl B.str bt_str ?_
      refine we_bin ?_
      refine we_var 3 rfl (by walk_at "vis") rfl ?_
      refine we_var 2 rfl (by walk_at "vis") rfl ?_
      refine ⟨_, _, .inl rfl, .inl rfl, ?_⟩
      refine opw_sub ?_
      refine ⟨_, .inl rfl, ?_⟩
      obtain ⟨g12, h⟩ := Out.gd h
      refine c_strI g12 ?_
      exact ⟨_, rfl, rfl, rfl, h⟩
    obtain ⟨g13, h⟩ := Out.gd h
    refine ⟨lt_ rfl, i9, rfl, g13, ?_⟩
    refine Hold.h ?_
    refine wb_letH h (fun found14 => [.sh ((eRul C_Ruler) ruler1), .sh (eZ found14), .sh (eI x4.1), .sh (eI x4.2)]) rfl fun found14 h => ?_
    -- 15
    refine wb_cons (ws_augT 1 (n := found14) nd rfl (by walk_at "vis") rfl ?_)
    refine we_globS rfl m_MARK_SIGN ?_
    obtain ⟨g15, h⟩ := Out.gd h
    refine ⟨lt_ rfl, z__, rfl, g15, ?_⟩
    refine Hold.h ?_
    refine wb_letH h (fun found16 => [.sh ((eRul C_Ruler) ruler1), .sh (eZ found16), .sh (eI x4.1), .sh (eI x4.2)]) rfl fun found16 h => ?_
    exact wb_nil ⟨found16, (.eq (.eq (.no (.no .nil)))), rfl, h⟩
  -- 16
  refine wb_cons (ws_ret ?_)
  refine we_var 1 rfl (by walk_at "vis") rfl ?_
  refine ⟨_, rfl, ?_⟩
  exact h
theorem ok_bench_line {f : Addr} {fd : FuncData} (F : Fun K "bench_line" "bench_line" s_bench_line f fd) (B : Bn mg) {t_CUT : Tok} (m_CUT : mg "CUT" = some (.str "x" t_CUT)) {t_FREE : Tok} (m_FREE : mg "FREE" = some (.str "." t_FREE)) {t_HERE : Tok} (m_HERE : mg "HERE" = some (.str "@" t_HERE)) (cl_Bench : Clo_Bench K C_Bench) (p_Bench_place : PropD P w K mg base C_Bench "place" 3 (FCO cx C_Bench ns_Bench (σT := S_Bench) (A := Unit) (R := Int) (fl_Bench C_Ruler C_Rack C_Scene) (fun _ => []) (fun v => .sh (eI v)) (fun s _ => .ok (m_Bench_place s)))) (p_Bench_scratches : PropD P w K mg base C_Bench "scratches" 3 (FCO cx C_Bench ns_Bench (σT := S_Bench) (A := Unit) (R := List Int) (fl_Bench C_Ruler C_Rack C_Scene) (fun _ => []) (fun v => .sh ((eT eI) v)) (fun s _ => .ok (m_Bench_scratches s)))) : FnOk P w K mg base (L2.CX P w) 6 f fd ["bench"] (spD K (FCOa cx C_Bench ns_Bench (σT := S_Bench) (A := Unit) (R := S) (fl_Bench C_Ruler C_Rack C_Scene) (fun o _ => [D.adr o]) (fun v => .sh (eZ v)) (fun s _ => m_bench_line s))) := by
  refine def_ok F sc_bench_line (fun ds G post px h => ?_) (fun cdv A outer s H E F0 T hr ds GI post px h tk hp => ?_)
  · obtain ⟨_, _, _, _, rfl, _⟩ := h; rfl
  obtain ⟨self1, _, o, fpI, rfl, hP, h⟩ := h
  unfold m_bench_line at h
  try dsimp only at h
  have nd := sc_bench_line.nd
  change WB _ _ [.sh (.adr o), .no, .no] _ _
  -- 18
  refine wb_cons ?_
  refine Hold.h ?_
  refine ws_setH 1 nd rfl (by walk_at "vis") ?_
  refine we_str ?_
  refine ⟨lt_ rfl, _, rfl, ?_⟩
  change WB _ _ [.sh (.adr o), .sh (eZ z_), .no] _ _
  -- 19
  refine Hold.h ?_
  refine wb_forOH (β := S) [2] (σT := S) (fun s2 => [.sh (.adr o), .sh (eZ s2), .no]) (fun s2 => GI) eI hp rfl ?_
  refine wi_rng1 rfl B.range ?_
  refine we_bin ?_
  refine we_fldA (ns := ns_Bench) (fs := fl_Bench C_Ruler C_Rack C_Scene self1) cl_Bench.cls cl_Bench.n_last rfl ?_
  refine we_var 0 rfl (by walk_at "vis") rfl ?_
  refine ⟨_, _, rfl, hP, ?_⟩
  refine we_int ?_
  refine ⟨_, _, .inl rfl, .inl rfl, ?_⟩
  refine opw_add ?_
  obtain ⟨g5, h⟩ := Out.gd h
  refine ⟨(self1.last + (1 : Int)), rfl, g5, ?_⟩
  refine ⟨(rgI 0 (self1.last + (1 : Int))), z_, _, _, _, _, rfl, (.eq (.eq (.no .nil))), rfl, h, fun s2 x4 Q' h => ?_, fun s3 h => ?_⟩
  · skip
    refine wg_name 2 nd rfl (by walk_at "vis") (by decide) (lt_ rfl) ?_
    change WB _ _ [.sh (.adr o), .sh (eZ s2), .sh (eI x4)] _ _
    -- 20
    refine wb_join (β := (S)) (σT := S) (fun s6 => [.sh (.adr o), .sh (eZ s6), .sh (eI x4)]) (fun s6 => GI) h (fun Q' h => ?_) (fun s6 h => ?_)
    · skip
      refine ws_if ?_
      refine wt_cmp (nomark _) ?_
      refine we_var 2 rfl (by walk_at "vis") rfl ?_
      refine we_propC cl_Bench.cls p_Bench_place hr ?_
      refine we_var 0 rfl (by walk_at "vis") rfl ?_
      refine ⟨self1, _, _, rfl, hP, ?_⟩
      refine ⟨_, _, .inl rfl, .inl rfl, ?_⟩
      refine opw_eqI ?_
      refine ⟨_, rfl, ?_⟩
      refine ⟨fun hc => ?_, fun hc => ?_⟩
      · skip
        have h := (Out.iteb h).1 hc
        -- 21
        refine wb_cons (ws_augT 1 (n := s2) nd rfl (by walk_at "vis") rfl ?_)
        refine we_globS rfl m_HERE ?_
        obtain ⟨g7, h⟩ := Out.gd h
        refine ⟨lt_ rfl, z____, rfl, g7, ?_⟩
        refine Hold.h ?_
        refine wb_letH h (fun found8 => [.sh (.adr o), .sh (eZ found8), .sh (eI x4)]) rfl fun found8 h => ?_
        exact wb_nil ⟨found8, (.eq (.eq (.eq .nil))), rfl, h⟩
      have h := (Out.iteb h).2 hc
      -- 23
      refine wb_cons (ws_augT 1 (n := s2) nd rfl (by walk_at "vis") rfl ?_)
      refine we_ifP (en := eZ) (va := z_x) (vb := z_____) ?_
      refine wt_cmp rfl ?_
      refine we_var 2 rfl (by walk_at "vis") rfl ?_
      refine we_propC cl_Bench.cls p_Bench_scratches hr ?_
      refine we_var 0 rfl (by walk_at "vis") rfl ?_
      refine ⟨self1, _, _, rfl, hP, ?_⟩
      refine ⟨_, _, .inl rfl, .inl rfl, ?_⟩
      refine opw_inT ?_
      refine ⟨_, rfl, ?_⟩
      refine ⟨fun _ => ?_, fun _ => ?_, ?_⟩
      · skip
        refine we_globS rfl m_CUT ?_
        exact ⟨rfl, rfl, rfl⟩
      · skip
        refine we_globS rfl m_FREE ?_
        exact ⟨rfl, rfl, rfl⟩
      obtain ⟨g9, h⟩ := Out.gd h
      refine ⟨lt_ rfl, (if (decide (x4 ∈ (m_Bench_scratches self1))) = true then z_x else z_____), rfl, g9, ?_⟩
      refine Hold.h ?_
      refine wb_letH h (fun found10 => [.sh (.adr o), .sh (eZ found10), .sh (eI x4)]) rfl fun found10 h => ?_
      exact wb_nil ⟨found10, (.eq (.eq (.eq .nil))), rfl, h⟩
    exact wb_nil ⟨s6, (.eq (.eq (.no .nil))), rfl, h⟩
  -- 24
  refine wb_cons (ws_ret ?_)
  refine we_var 1 rfl (by walk_at "vis") rfl ?_
  refine ⟨_, rfl, ?_⟩
  exact h
theorem ok_law_marks {f : Addr} {fd : FuncData} (F : Fun K "_law_marks" "_law_marks" s_law_marks f fd) (B : Bn mg) (c_law_next : Cal P w K mg base "_law_next" 3 ["_law_h", "_law_limit"] (FBh (A := Int) (R := Int) (fun a => [eI a]) (fun v => .sh (eI v)) (fun a => m_law_next a))) : FnOk P w K mg base (L2.CX P w) 5 f fd ["_law_h", "_law_most", "_law_wide"] (spD K (FBh (A := Int × Int) (R := List Int) (fun a => [eI a.1, eI a.2]) (fun v => .sh ((eT eI) v)) (fun a => m_law_marks a.1 a.2))) := by
  refine def_ok F sc_law_marks (fun ds G post px h => ?_) (fun cdv A outer s H E F0 T hr ds G post px h tk hp => ?_)
  · obtain ⟨_, _, _, _, _, _, rfl, _⟩ := h; rfl
  obtain ⟨⟨most1, wide2⟩, G0, b, g, bx, hne, rfl, rfl, h⟩ := h
  unfold m_law_marks at h
  try dsimp only at h
  have nd := sc_law_marks.nd
  change WB _ _ [.sh (.adr b), .sh (eI most1), .sh (eI wide2), .no, .no] _ _
  -- 302
  refine wb_cons ?_
  refine Hold.h ?_
  refine ws_setH 3 nd rfl (by walk_at "vis") ?_
  refine we_lst ?_
  refine wa_cons ?_
  refine we_int ?_
  refine ⟨_, _, rfl, ?_⟩
  refine wa_nil ?_
  refine ⟨lt_ rfl, ?_⟩
  refine ⟨lt_ rfl, _, rfl, ?_⟩
  refine Hold.h ?_
  refine wb_letH h (fun found3 => [.sh (.adr b), .sh (eI most1), .sh (eI wide2), .own ((eL eI) found3), .no]) rfl fun found3 h => ?_
  -- 303
  refine Hold.h ?_
  refine wb_forOH (β := (List Int × Bh)) [4] (σT := (List Int) × Bh) (fun s4 => [.sh (.adr b), .sh (eI most1), .sh (eI wide2), .own ((eL eI) s4.1), .no]) (fun s4 => bxH G0 b g s4.2) eI hp rfl ?_
  refine wi_rng1 rfl B.range ?_
  refine we_bin ?_
  refine we_int ?_
  refine we_cal tk c_law_next hr rfl ?_
  refine wa_cons ?_
  refine we_var 0 rfl (by walk_at "vis") rfl ?_
  refine ⟨_, _, rfl, ?_⟩
  refine wa_cons ?_
  refine we_bin ?_
  refine we_var 1 rfl (by walk_at "vis") rfl ?_
  refine we_int ?_
  refine ⟨_, _, .inl rfl, .inl rfl, ?_⟩
  refine opw_sub ?_
  refine ⟨_, _, rfl, ?_⟩
  refine wa_nil ?_
  refine ⟨most1 - (1 : Int), G0, b, g, bx, hne, rfl, rfl, (Out.sb h).imp (fun r7 h => ?_) (fun _ he => he.elim)⟩
  refine ⟨_, _, .inl rfl, .inl rfl, ?_⟩
  refine opw_add ?_
  obtain ⟨g8, h⟩ := Out.gd h
  refine ⟨((1 : Int) + r7.1), rfl, g8, ?_⟩
  refine ⟨(rgI 0 ((1 : Int) + r7.1)), (found3, r7.2), _, _, _, _, rfl, (.eq (.eq (.eq (.eq (.no .nil))))), rfl, h, fun s4 x6 Q' h => ?_, fun s5 h => ?_⟩
  · skip
    refine wg_name 4 nd rfl (by walk_at "vis") (by decide) (lt_ rfl) ?_
    change WB _ _ [.sh (.adr b), .sh (eI most1), .sh (eI wide2), .own ((eL eI) s4.1), .sh (eI x6)] _ _
    -- 304
    refine wb_cons (ws_expr ?_)
    refine we_appendT (f := eI) ?_
    refine we_var 3 rfl (by walk_at "vis") rfl ?_
    refine ⟨_, s4.1, rfl, rfl, ?_⟩
    refine we_bin ?_
    refine we_bin ?_
    refine we_ix (fun _ _ => rfl) ?_
    refine we_var 3 rfl (by walk_at "vis") rfl ?_
    refine we_un rfl ?_
    refine we_int ?_
    refine ⟨_, rfl, ?_⟩
    obtain ⟨x10, hx10, h⟩ := Out.gt h
    refine ⟨_, _, .inl rfl, .inl rfl, ?_⟩
    refine t_ix (f := eI) hx10 ?_
    refine we_int ?_
    refine ⟨_, _, .inl rfl, .inl rfl, ?_⟩
    refine opw_add ?_
    refine we_cal tk c_law_next hr rfl ?_
    refine wa_cons ?_
    refine we_var 0 rfl (by walk_at "vis") rfl ?_
    refine ⟨_, _, rfl, ?_⟩
    refine wa_cons ?_
    refine we_var 2 rfl (by walk_at "vis") rfl ?_
    refine ⟨_, _, rfl, ?_⟩
    refine wa_nil ?_
    refine ⟨wide2, G0, b, g, s4.2, hne, rfl, rfl, (Out.sb h).imp (fun r11 h => ?_) (fun _ he => he.elim)⟩
    refine ⟨_, _, .inl rfl, .inl rfl, ?_⟩
    refine opw_add ?_
    obtain ⟨g12, h⟩ := Out.gd h
    refine ⟨((x10 + (1 : Int)) + r11.1), _, s4.1, rfl, rfl, g12, ?_⟩
    refine Hold.h ?_
    refine wb_letH h (fun found13 => [.sh (.adr b), .sh (eI most1), .sh (eI wide2), .own ((eL eI) found13), .sh (eI x6)]) rfl fun found13 h => ?_
    exact wb_nil ⟨(found13, r11.2), (.eq (.eq (.eq (.eq (.no .nil))))), rfl, h⟩
  -- 305
  refine wb_cons (ws_ret ?_)
  refine we_t1 (x := "tuple") (id := "tuple") rfl B.tuple bt_tuple ?_
  refine we_var 3 rfl (by walk_at "vis") rfl ?_
  refine ⟨_, .inl rfl, ?_⟩
  refine c_tuple ?_
  refine ⟨_, rfl, ?_⟩
  exact h
theorem ok_law_drawn {f : Addr} {fd : FuncData} (F : Fun K "_law_drawn" "_law_drawn" s_law_drawn f fd) (B : Bn mg) (c_law_marks : Cal P w K mg base "_law_marks" 5 ["_law_h", "_law_most", "_law_wide"] (FBh (A := Int × Int) (R := List Int) (fun a => [eI a.1, eI a.2]) (fun v => .sh ((eT eI) v)) (fun a => m_law_marks a.1 a.2))) (c_law_next : Cal P w K mg base "_law_next" 3 ["_law_h", "_law_limit"] (FBh (A := Int) (R := Int) (fun a => [eI a]) (fun v => .sh (eI v)) (fun a => m_law_next a))) : FnOk P w K mg base (L2.CX P w) 7 f fd ["_law_h", "_law_most", "_law_wide"] (spD K (FBh (A := Int × Int) (R := List (S × (List Int × Int))) (fun a => [eI a.1, eI a.2]) (fun v => .fr ((eD kZ (eP (eT eI) eI)) v)) (fun a => m_law_drawn a.1 a.2))) := by
  refine def_ok F sc_law_drawn (fun ds G post px h => ?_) (fun cdv A outer s H E F0 T hr ds G post px h tk hp => ?_)
  · obtain ⟨_, _, _, _, _, _, rfl, _⟩ := h; rfl
  obtain ⟨⟨most1, wide2⟩, G0, b, g, bx, hne, rfl, rfl, h⟩ := h
  unfold m_law_drawn at h
  try dsimp only at h
  have nd := sc_law_drawn.nd
  change WB _ _ [.sh (.adr b), .sh (eI most1), .sh (eI wide2), .no, .no] _ _
  -- 307
  refine wb_cons ?_
  refine Hold.h ?_
  refine ws_setH 3 nd rfl (by walk_at "vis") ?_
  refine we_dnew ?_
  refine ⟨lt_ rfl, _, rfl, ?_⟩
  refine Hold.h ?_
  refine wb_letH h (fun found3 => [.sh (.adr b), .sh (eI most1), .sh (eI wide2), .own ((eD kZ (eP (eT eI) eI)) found3), .no]) rfl fun found3 h => ?_
  -- 308
  refine Hold.h ?_
  refine wb_forOH (β := (List (S × (List Int × Int)) × Bh)) [4] (σT := (List (S × (List Int × Int))) × Bh) (fun s4 => [.sh (.adr b), .sh (eI most1), .sh (eI wide2), .own ((eD kZ (eP (eT eI) eI)) s4.1), .no]) (fun s4 => bxH G0 b g s4.2) eZ hp rfl ?_
  refine ti_lst (f := eZ) ?_
  refine we_slice ?_
  refine we_lst ?_
  refine wa_cons ?_
  refine we_str ?_
  refine ⟨_, _, rfl, ?_⟩
  refine wa_cons ?_
  refine we_str ?_
  refine ⟨_, _, rfl, ?_⟩
  refine wa_cons ?_
  refine we_str ?_
  refine ⟨_, _, rfl, ?_⟩
  refine wa_cons ?_
  refine we_str ?_
  refine ⟨_, _, rfl, ?_⟩
  refine wa_cons ?_
  refine we_str ?_
  refine ⟨_, _, rfl, ?_⟩
  refine wa_cons ?_
  refine we_str ?_
  refine ⟨_, _, rfl, ?_⟩
  refine wa_nil ?_
  refine ⟨lt_ rfl, ?_⟩
  refine wo_none ?_
  refine wo_some ?_
  refine we_bin ?_
  refine we_int ?_
  refine we_cal tk c_law_next hr rfl ?_
  refine wa_cons ?_
  refine we_var 0 rfl (by walk_at "vis") rfl ?_
  refine ⟨_, _, rfl, ?_⟩
  refine wa_cons ?_
  refine we_var 1 rfl (by walk_at "vis") rfl ?_
  refine ⟨_, _, rfl, ?_⟩
  refine wa_nil ?_
  refine ⟨most1, G0, b, g, bx, hne, rfl, rfl, (Out.sb h).imp (fun r7 h => ?_) (fun _ he => he.elim)⟩
  refine ⟨_, _, .inl rfl, .inl rfl, ?_⟩
  refine opw_add ?_
  refine ⟨_, rfl, ?_⟩
  refine ⟨_, .inl rfl, ?_⟩
  refine t_sl (f := eZ) (xs := [z_ash, z_bay, z_elm, z_fir, z_oak, z_yew]) ?_
  refine ⟨(pcut [z_ash, z_bay, z_elm, z_fir, z_oak, z_yew] none (some ((1 : Int) + r7.1))), _, rfl, fun hl8 => ?_⟩
  refine ⟨(pcut [z_ash, z_bay, z_elm, z_fir, z_oak, z_yew] none (some ((1 : Int) + r7.1))), (found3, r7.2), _, _, _, _, rfl, (.eq (.eq (.eq (.eq (.no .nil))))), rfl, h, fun s4 x6 Q' h => ?_, fun s5 h => ?_⟩
  · skip
    refine wg_name 4 nd rfl (by walk_at "vis") (by decide) (lt_ rfl) ?_
    change WB _ _ [.sh (.adr b), .sh (eI most1), .sh (eI wide2), .own ((eD kZ (eP (eT eI) eI)) s4.1), .sh (eZ x6)] _ _
    -- 309
    refine wb_cons (ws_dput (k := kZ) (f := (eP (eT eI) eI)) kZ_inj hr.units ?_)
    refine we_tup ?_
    refine wa_cons ?_
    refine we_cal tk c_law_marks hr rfl ?_
    refine wa_cons ?_
    refine we_var 0 rfl (by walk_at "vis") rfl ?_
    refine ⟨_, _, rfl, ?_⟩
    refine wa_cons ?_
    refine we_int ?_
    refine ⟨_, _, rfl, ?_⟩
    refine wa_cons ?_
    refine we_var 2 rfl (by walk_at "vis") rfl ?_
    refine ⟨_, _, rfl, ?_⟩
    refine wa_nil ?_
    refine ⟨((4 : Int), wide2), G0, b, g, s4.2, hne, rfl, rfl, (Out.sb h).imp (fun r9 h => ?_) (fun _ he => he.elim)⟩
    refine ⟨_, _, rfl, ?_⟩
    refine wa_cons ?_
    refine we_ix (fun _ _ => rfl) ?_
    refine we_lst ?_
    refine wa_cons ?_
    refine we_int ?_
    refine ⟨_, _, rfl, ?_⟩
    refine wa_cons ?_
    refine we_int ?_
    refine ⟨_, _, rfl, ?_⟩
    refine wa_cons ?_
    refine we_int ?_
    refine ⟨_, _, rfl, ?_⟩
    refine wa_cons ?_
    refine we_int ?_
    refine ⟨_, _, rfl, ?_⟩
    refine wa_nil ?_
    refine ⟨lt_ rfl, ?_⟩
    refine we_cal tk c_law_next hr rfl ?_
    refine wa_cons ?_
    refine we_var 0 rfl (by walk_at "vis") rfl ?_
    refine ⟨_, _, rfl, ?_⟩
    refine wa_cons ?_
    refine we_int ?_
    refine ⟨_, _, rfl, ?_⟩
    refine wa_nil ?_
    refine ⟨(4 : Int), G0, b, g, r9.2, hne, rfl, rfl, (Out.sb h).imp (fun r10 h => ?_) (fun _ he => he.elim)⟩
    obtain ⟨x11, hx11, h⟩ := Out.gt h
    refine ⟨_, _, .inl rfl, .inl rfl, ?_⟩
    refine t_ix (f := eI) hx11 ?_
    refine ⟨_, _, rfl, ?_⟩
    refine wa_nil ?_
    refine ⟨lt_ rfl, ?_⟩
    refine ⟨(r9.1, x11), _, rfl, ?_⟩
    refine we_var 3 rfl (by walk_at "vis") rfl ?_
    refine ⟨_, rfl, ?_⟩
    refine we_var 4 rfl (by walk_at "vis") rfl ?_
    obtain ⟨g12, h⟩ := Out.gd h
    refine ⟨s4.1, x6, rfl, rfl, g12, ?_⟩
    refine Hold.h ?_
    refine wb_letH h (fun found13 => [.sh (.adr b), .sh (eI most1), .sh (eI wide2), .own ((eD kZ (eP (eT eI) eI)) found13), .sh (eZ x6)]) rfl fun found13 h => ?_
    exact wb_nil ⟨(found13, r10.2), (.eq (.eq (.eq (.eq (.no .nil))))), rfl, h⟩
  -- 310
  refine wb_cons (ws_ret ?_)
  refine we_var 3 rfl (by walk_at "vis") rfl ?_
  refine ⟨_, rfl, ?_⟩
  exact h
theorem ok_law_rack {f : Addr} {fd : FuncData} (F : Fun K "_law_rack" "_law_rack" s_law_rack f fd) (B : Bn mg) (k_Rack : MakeD P w K mg base "Rack" C_Rack 5 ["self", "rulers"] (FMI cx (A := List (S × Rul)) (R := Rak) (fun a => [(eD kZ (eRul C_Ruler)) a]) (fun r => [eD kZ (eRul C_Ruler) r.held]) (fun a => mk_Rack a))) (k_Ruler : MakeD P w K mg base "Ruler" C_Ruler 5 ["self", "marks", "error"] (FMI cx (A := (List Int) × Int) (R := Rul) (fun a => [(eT eI) a.1, eI a.2]) (fun r => [.int r.error, .tup (r.marks.map D.int)]) (fun a => mk_Ruler a.1 a.2))) : FnOk P w K mg base (L2.CX P w) 8 f fd ["_law_drawn_here"] (spD K (FM cx (A := List (S × (List Int × Int))) (R := Rak) (fun a => [(eD kZ (eP (eT eI) eI)) a]) (fun v => .sh ((eRak C_Rack C_Ruler) v)) (fun a => m_law_rack a))) := by
  refine def_ok F sc_law_rack (fun ds G post px h => ?_) (fun cdv A outer s H E F0 T hr ds G post px h tk hp => ?_)
  · obtain ⟨_, rfl, _⟩ := h; rfl
  obtain ⟨drawn_here1, rfl, h⟩ := h
  unfold m_law_rack at h
  try dsimp only at h
  have nd := sc_law_rack.nd
  change WB _ _ [.sh ((eD kZ (eP (eT eI) eI)) drawn_here1), .no] _ _
  -- 312
  refine wb_cons (ws_ret ?_)
  refine we_make tk k_Rack hr rfl ?_
  refine wa_cons ?_
  refine we_lock ?_
  refine we_t1 (x := "dict") (id := "dict") rfl B.dict bt_dict ?_
  refine we_lcQ [("_law_name", 1)] rfl nd (blkOk_by (by rfl)) (lcS_preP (γ := Rak) [("_law_name", 1)] [.sh ((eD kZ (eP (eT eI) eI)) drawn_here1), .no] (fun _ : Unit => G) (en := eZ) (eP eZ (eRul C_Ruler)) ?_)
  refine ti_keys (k := kZ) (f := (eP (eT eI) eI)) ?_
  refine we_var 0 rfl (by walk_at "vis") rfl ?_
  refine ⟨drawn_here1, _, rfl, fun hl3 => ?_⟩
  refine ⟨(drawn_here1.map (·.1)), (), _, _, _, _, rfl, hl3, Wk.refl _, rfl, h, fun s4 x2 Q' h => ?_, fun l5 h => ?_⟩
  · skip
    rintro Y ⟨s1, H1, C1, cl, fp, rfl⟩
    refine wg_name 1 nd rfl (by walk_at "vis") (by decide) (lt_ rfl) ?_
    rintro Y ⟨s1, H1, C1, cl, fp, rfl⟩
    refine we_tup ?_
    refine wa_cons ?_
    refine we_var 1 rfl (by walk_at "vis") rfl ?_
    refine ⟨_, _, rfl, ?_⟩
    refine wa_cons ?_
    refine we_make (BlkX.tk ⟨_, _, _, _, _, rfl⟩) k_Ruler hr rfl ?_
    refine wa_cons ?_
    refine we_ix (fun _ _ => rfl) ?_
    refine we_dget (k := kZ) (f := (eP (eT eI) eI)) kZ_inj hr.units (fun _ _ => rfl) ?_
    refine we_var 0 rfl (by walk_at "vis") rfl ?_
    refine we_var 1 rfl (by walk_at "vis") rfl ?_
    obtain ⟨x6, hx6, h⟩ := Out.gt h
    refine ⟨drawn_here1, x2, _, .inl rfl, rfl, hx6, ?_⟩
    refine we_int ?_
    refine ⟨_, _, .inl rfl, .inl rfl, ?_⟩
    refine ixw_tup (xs := [(eT eI) x6.1, eI x6.2]) (i := (0 : Int)) rfl ?_
    refine ⟨_, _, rfl, ?_⟩
    refine wa_cons ?_
    refine we_ix (fun _ _ => rfl) ?_
    refine we_dget (k := kZ) (f := (eP (eT eI) eI)) kZ_inj hr.units (fun _ _ => rfl) ?_
    refine we_var 0 rfl (by walk_at "vis") rfl ?_
    refine we_var 1 rfl (by walk_at "vis") rfl ?_
    obtain ⟨x7, hx7, h⟩ := Out.gt h
    refine ⟨drawn_here1, x2, _, .inl rfl, rfl, hx7, ?_⟩
    refine we_int ?_
    refine ⟨_, _, .inl rfl, .inl rfl, ?_⟩
    refine ixw_tup (xs := [(eT eI) x7.1, eI x7.2]) (i := (1 : Int)) rfl ?_
    refine ⟨_, _, rfl, ?_⟩
    refine wa_nil ?_
    refine ⟨(x6.1, x7.2), rfl, (Out.nx (Out.sb h)).imp (fun r8 h => ?_) (fun _ he => he)⟩
    refine ⟨_, _, rfl, ?_⟩
    refine wa_nil ?_
    refine ⟨lt_ rfl, ?_⟩
    exact ⟨(x2, r8), (), _, rfl, Wk.refl _, rfl, h⟩
  refine ⟨_, .inl rfl, ?_⟩
  refine t_dictP (k := kZ) (f := (eRul C_Ruler)) kZ_inj rfl l5.1 ?_
  refine ⟨_, _, rfl, ?_⟩
  refine ⟨_, _, rfl, ?_⟩
  refine wa_nil ?_
  refine ⟨dmk l5.1, rfl, (Out.sb h).imp (fun r9 h => ?_) (fun _ he => he)⟩
  refine ⟨_, rfl, ?_⟩
  exact h
theorem ok_law_spans {f : Addr} {fd : FuncData} (F : Fun K "_law_spans" "_law_spans" s_law_spans f fd) (B : Bn mg) : FnOk P w K mg base (L2.CX P w) 3 f fd ["_law_marks_here"] (spD K (FM cx (A := List Int) (R := List Int) (fun a => [(eT eI) a]) (fun v => .fr ((eL eI) v)) (fun a => m_law_spans a))) := by
  refine def_ok F sc_law_spans (fun ds G post px h => ?_) (fun cdv A outer s H E F0 T hr ds G post px h tk hp => ?_)
  · obtain ⟨_, rfl, _⟩ := h; rfl
  obtain ⟨marks_here1, rfl, h⟩ := h
  unfold m_law_spans at h
  try dsimp only at h
  have nd := sc_law_spans.nd
  change WB _ _ [.sh ((eT eI) marks_here1), .no, .no, .no] _ _
  -- 314
  refine wb_cons ?_
  refine Hold.h ?_
  refine ws_setH 1 nd rfl (by walk_at "vis") ?_
  refine we_lst ?_
  refine wa_nil ?_
  refine ⟨by decide, ?_⟩
  refine ⟨lt_ rfl, _, rfl, ?_⟩
  refine Hold.h ?_
  refine wb_letH h (fun found2 => [.sh ((eT eI) marks_here1), .own ((eL eI) found2), .no, .no]) rfl fun found2 h => ?_
  -- 315
  refine Hold.h ?_
  refine wb_forOH (β := List Int) [2] (σT := List Int) (fun s3 => [.sh ((eT eI) marks_here1), .own ((eL eI) s3), .no, .no]) (fun s3 => G) eI hp rfl ?_
  refine wi_rng1 rfl B.range ?_
  refine we_b1 (x := "len") (id := "len") rfl B.len bt_len ?_
  refine we_var 0 rfl (by walk_at "vis") rfl ?_
  refine ⟨_, .inl rfl, ?_⟩
  refine t_lenT (f := eI) marks_here1 ?_
  obtain ⟨g6, h⟩ := Out.gd h
  refine ⟨((marks_here1).length : Int), rfl, g6, ?_⟩
  refine ⟨(rgI 0 ((marks_here1).length : Int)), found2, _, _, _, _, rfl, (.eq (.eq (.no (.no .nil)))), rfl, h, fun s3 x5 Q' h => ?_, fun s4 h => ?_⟩
  · skip
    refine wg_name 2 nd rfl (by walk_at "vis") (by decide) (lt_ rfl) ?_
    change WB _ _ [.sh ((eT eI) marks_here1), .own ((eL eI) s3), .sh (eI x5), .no] _ _
    -- 316
    refine wb_cons ?_
    refine Hold.h ?_
    refine ws_setH 1 nd rfl (by walk_at "vis") ?_
    refine we_bin ?_
    refine we_var 1 rfl (by walk_at "vis") rfl ?_
    refine we_lcQ [("_law_j", 3)] rfl nd (blkOk_by (by rfl)) (lcS_preP (γ := (List Int)) [("_law_j", 3)] [.sh ((eT eI) marks_here1), .own ((eL eI) s3), .sh (eI x5), .no] (fun _ : Unit => G) (en := eI) eI ?_)
    refine wi_rng2 rfl B.range ?_
    refine we_bin ?_
    refine we_var 2 rfl (by walk_at "vis") rfl ?_
    refine we_int ?_
    refine ⟨_, _, .inl rfl, .inl rfl, ?_⟩
    refine opw_add ?_
    refine we_b1 (x := "len") (id := "len") rfl B.len bt_len ?_
    refine we_var 0 rfl (by walk_at "vis") rfl ?_
    refine ⟨_, .inl rfl, ?_⟩
    refine t_lenT (f := eI) marks_here1 ?_
    obtain ⟨g8, h⟩ := Out.gd h
    obtain ⟨g9, h⟩ := Out.gd h
    refine ⟨(x5 + (1 : Int)), ((marks_here1).length : Int), rfl, rfl, g8, g9, ?_⟩
    obtain ⟨g10, h⟩ := Out.gd h
    refine ⟨(rgI (x5 + (1 : Int)) ((marks_here1).length : Int)), (), _, _, _, _, rfl, g10, Wk.refl _, rfl, h, fun s11 x7 Q' h => ?_, fun l12 h => ?_⟩
    · skip
      rintro Y ⟨s1, H1, C1, cl, fp, rfl⟩
      refine wg_name 3 nd rfl (by walk_at "vis") (by decide) (lt_ rfl) ?_
      rintro Y ⟨s1, H1, C1, cl, fp, rfl⟩
      refine we_bin ?_
      refine we_ix (fun _ _ => rfl) ?_
      refine we_var 0 rfl (by walk_at "vis") rfl ?_
      refine we_var 3 rfl (by walk_at "vis") rfl ?_
      obtain ⟨x13, hx13, h⟩ := Out.gt h
      refine ⟨_, _, .inl rfl, .inl rfl, ?_⟩
      refine t_ixT (f := eI) hx13 ?_
      refine we_ix (fun _ _ => rfl) ?_
      refine we_var 0 rfl (by walk_at "vis") rfl ?_
      refine we_var 2 rfl (by walk_at "vis") rfl ?_
      obtain ⟨x14, hx14, h⟩ := Out.gt h
      refine ⟨_, _, .inl rfl, .inl rfl, ?_⟩
      refine t_ixT (f := eI) hx14 ?_
      refine ⟨_, _, .inl rfl, .inl rfl, ?_⟩
      refine opw_sub ?_
      exact ⟨(x13 - x14), (), _, rfl, Wk.refl _, rfl, h⟩
    obtain ⟨g15, h⟩ := Out.gd h
    refine ⟨_, _, .inl rfl, .inl rfl, ?_⟩
    refine t_cat (f := eI) s3 l12.1 g15 ?_
    refine ⟨lt_ rfl, _, rfl, ?_⟩
    refine Hold.h ?_
    refine wb_letH h (fun found16 => [.sh ((eT eI) marks_here1), .own ((eL eI) found16), .sh (eI x5), .no]) rfl fun found16 h => ?_
    exact wb_nil ⟨found16, (.eq (.eq (.no (.no .nil)))), rfl, h⟩
  -- 317
  refine wb_cons (ws_ret ?_)
  refine we_sortU rfl rfl B.sorted rfl B.set ?_
  refine we_var 1 rfl (by walk_at "vis") rfl ?_
  obtain ⟨g17, h⟩ := Out.gd h
  refine ⟨s4, .inl rfl, g17, ?_⟩
  refine ⟨_, rfl, ?_⟩
  exact h
theorem ok_law_steps {f : Addr} {fd : FuncData} (F : Fun K "_law_steps" "_law_steps" s_law_steps f fd) (B : Bn mg) (c_law_spans : Cal P w K mg base "_law_spans" 3 ["_law_marks_here"] (FM cx (A := List Int) (R := List Int) (fun a => [(eT eI) a]) (fun v => .fr ((eL eI) v)) (fun a => m_law_spans a))) : FnOk P w K mg base (L2.CX P w) 5 f fd ["_law_drawn_here"] (spD K (FM cx (A := List (S × (List Int × Int))) (R := List ((S × Int))) (fun a => [(eD kZ (eP (eT eI) eI)) a]) (fun v => .fr ((eL (eP eZ eI)) v)) (fun a => m_law_steps a))) := by
  refine def_ok F sc_law_steps (fun ds G post px h => ?_) (fun cdv A outer s H E F0 T hr ds G post px h tk hp => ?_)
  · obtain ⟨_, rfl, _⟩ := h; rfl
  obtain ⟨drawn_here1, rfl, h⟩ := h
  unfold m_law_steps at h
  try dsimp only at h
  have nd := sc_law_steps.nd
  change WB _ _ [.sh ((eD kZ (eP (eT eI) eI)) drawn_here1), .no, .no, .no] _ _
  -- 319
  refine wb_cons ?_
  refine Hold.h ?_
  refine ws_setH 1 nd rfl (by walk_at "vis") ?_
  refine we_lst ?_
  refine wa_nil ?_
  refine ⟨by decide, ?_⟩
  refine ⟨lt_ rfl, _, rfl, ?_⟩
  refine Hold.h ?_
  refine wb_letH h (fun found2 => [.sh ((eD kZ (eP (eT eI) eI)) drawn_here1), .own ((eL (eP eZ eI)) found2), .no, .no]) rfl fun found2 h => ?_
  -- 320
  refine Hold.h ?_
  refine wb_forOH (β := List ((S × Int))) [2] (σT := List ((S × Int))) (fun s3 => [.sh ((eD kZ (eP (eT eI) eI)) drawn_here1), .own ((eL (eP eZ eI)) s3), .no, .no]) (fun s3 => G) eZ hp rfl ?_
  refine ti_keys (k := kZ) (f := (eP (eT eI) eI)) ?_
  refine we_var 0 rfl (by walk_at "vis") rfl ?_
  refine ⟨drawn_here1, _, rfl, fun hl6 => ?_⟩
  refine ⟨(drawn_here1.map (·.1)), found2, _, _, _, _, rfl, (.eq (.eq (.no (.no .nil)))), rfl, h, fun s3 x5 Q' h => ?_, fun s4 h => ?_⟩
  · skip
    refine wg_name 2 nd rfl (by walk_at "vis") (by decide) (lt_ rfl) ?_
    change WB _ _ [.sh ((eD kZ (eP (eT eI) eI)) drawn_here1), .own ((eL (eP eZ eI)) s3), .sh (eZ x5), .no] _ _
    -- 321
    refine Hold.h ?_
    refine wb_forOH (β := (List ((S × Int)))) [3] (σT := List ((S × Int))) (fun s7 => [.sh ((eD kZ (eP (eT eI) eI)) drawn_here1), .own ((eL (eP eZ eI)) s7), .sh (eZ x5), .no]) (fun s7 => G) eI hp rfl ?_
    refine ti_lst (f := eI) ?_
    refine we_cal tk c_law_spans hr rfl ?_
    refine wa_cons ?_
    refine we_ix (fun _ _ => rfl) ?_
    refine we_dget (k := kZ) (f := (eP (eT eI) eI)) kZ_inj hr.units (fun _ _ => rfl) ?_
    refine we_var 0 rfl (by walk_at "vis") rfl ?_
    refine we_var 2 rfl (by walk_at "vis") rfl ?_
    obtain ⟨x10, hx10, h⟩ := Out.gt h
    refine ⟨drawn_here1, x5, _, .inl rfl, rfl, hx10, ?_⟩
    refine we_int ?_
    refine ⟨_, _, .inl rfl, .inl rfl, ?_⟩
    refine ixw_tup (xs := [(eT eI) x10.1, eI x10.2]) (i := (0 : Int)) rfl ?_
    refine ⟨_, _, rfl, ?_⟩
    refine wa_nil ?_
    refine ⟨x10.1, rfl, (Out.sb h).imp (fun r11 h => ?_) (fun _ he => he)⟩
    refine ⟨r11, _, rfl, fun hl12 => ?_⟩
    refine ⟨r11, s3, _, _, _, _, rfl, (.eq (.eq (.eq (.no .nil)))), rfl, h, fun s7 x9 Q' h => ?_, fun s8 h => ?_⟩
    · skip
      refine wg_name 3 nd rfl (by walk_at "vis") (by decide) (lt_ rfl) ?_
      change WB _ _ [.sh ((eD kZ (eP (eT eI) eI)) drawn_here1), .own ((eL (eP eZ eI)) s7), .sh (eZ x5), .sh (eI x9)] _ _
      -- 322
      refine wb_cons ?_
      refine Hold.h ?_
      refine ws_setH 1 nd rfl (by walk_at "vis") ?_
      refine we_bin ?_
      refine we_var 1 rfl (by walk_at "vis") rfl ?_
      refine we_lst ?_
      refine wa_cons ?_
      refine we_tup ?_
      refine wa_cons ?_
      refine we_var 2 rfl (by walk_at "vis") rfl ?_
      refine ⟨_, _, rfl, ?_⟩
      refine wa_cons ?_
      refine we_var 3 rfl (by walk_at "vis") rfl ?_
      refine ⟨_, _, rfl, ?_⟩
      refine wa_nil ?_
      refine ⟨lt_ rfl, ?_⟩
      refine ⟨_, _, rfl, ?_⟩
      refine wa_cons ?_
      refine we_tup ?_
      refine wa_cons ?_
      refine we_var 2 rfl (by walk_at "vis") rfl ?_
      refine ⟨_, _, rfl, ?_⟩
      refine wa_cons ?_
      refine we_bin ?_
      refine we_int ?_
      refine we_var 3 rfl (by walk_at "vis") rfl ?_
      refine ⟨_, _, .inl rfl, .inl rfl, ?_⟩
      refine opw_sub ?_
      refine ⟨_, _, rfl, ?_⟩
      refine wa_nil ?_
      refine ⟨lt_ rfl, ?_⟩
      refine ⟨_, _, rfl, ?_⟩
      refine wa_nil ?_
      refine ⟨lt_ rfl, ?_⟩
      obtain ⟨g13, h⟩ := Out.gd h
      refine ⟨_, _, .inl rfl, .inl rfl, ?_⟩
      refine t_cat (f := (eP eZ eI)) s7 [(x5, x9), (x5, (0 : Int) - x9)] g13 ?_
      refine ⟨lt_ rfl, _, rfl, ?_⟩
      refine Hold.h ?_
      refine wb_letH h (fun found14 => [.sh ((eD kZ (eP (eT eI) eI)) drawn_here1), .own ((eL (eP eZ eI)) found14), .sh (eZ x5), .sh (eI x9)]) rfl fun found14 h => ?_
      exact wb_nil ⟨found14, (.eq (.eq (.eq (.no .nil)))), rfl, h⟩
    exact wb_nil ⟨s8, (.eq (.eq (.no (.no .nil)))), rfl, h⟩
  -- 323
  refine wb_cons (ws_ret ?_)
  refine we_b1 (x := "sorted") (id := "sorted") rfl B.sorted bt_sorted ?_
  refine we_var 1 rfl (by walk_at "vis") rfl ?_
  refine ⟨_, .inl rfl, ?_⟩
  refine t_sortedP s4 ?_
  refine ⟨_, rfl, ?_⟩
  exact h
theorem ok_law_row {f : Addr} {fd : FuncData} (F : Fun K "_law_row" "_law_row" s_law_row f fd) (B : Bn mg) (c_law_next : Cal P w K mg base "_law_next" 3 ["_law_h", "_law_limit"] (FBh (A := Int) (R := Int) (fun a => [eI a]) (fun v => .sh (eI v)) (fun a => m_law_next a))) (c_law_steps : Cal P w K mg base "_law_steps" 5 ["_law_drawn_here"] (FM cx (A := List (S × (List Int × Int))) (R := List ((S × Int))) (fun a => [(eD kZ (eP (eT eI) eI)) a]) (fun v => .fr ((eL (eP eZ eI)) v)) (fun a => m_law_steps a))) : FnOk P w K mg base (L2.CX P w) 7 f fd ["_law_h", "_law_drawn_here", "_law_most"] (spD K (FBh (A := (List (S × (List Int × Int))) × Int) (R := List ((S × Int))) (fun a => [(eD kZ (eP (eT eI) eI)) a.1, eI a.2]) (fun v => .fr ((eL (eP eZ eI)) v)) (fun a => m_law_row a.1 a.2))) := by
  refine def_ok F sc_law_row (fun ds G post px h => ?_) (fun cdv A outer s H E F0 T hr ds G post px h tk hp => ?_)
  · obtain ⟨_, _, _, _, _, _, rfl, _⟩ := h; rfl
  obtain ⟨⟨drawn_here1, most2⟩, G0, b, g, bx, hne, rfl, rfl, h⟩ := h
  unfold m_law_row at h
  try dsimp only at h
  have nd := sc_law_row.nd
  change WB _ _ [.sh (.adr b), .sh ((eD kZ (eP (eT eI) eI)) drawn_here1), .sh (eI most2), .no, .no, .no] _ _
  -- 325
  refine wb_cons (ws_par 3 4 rfl nd rfl rfl (by decide) rfl rfl (by rfl) ?_)
  refine we_cal tk c_law_steps hr rfl ?_
  refine wa_cons ?_
  refine we_var 1 rfl (by walk_at "vis") rfl ?_
  refine ⟨_, _, rfl, ?_⟩
  refine wa_nil ?_
  refine ⟨drawn_here1, rfl, (Out.sb h).imp (fun r3 h => ?_) (fun _ he => he.elim)⟩
  refine ⟨_, _, rfl, ?_⟩
  refine we_lst ?_
  refine wa_nil ?_
  refine ⟨by decide, ?_⟩
  refine ⟨_, _, rfl, lt_ rfl, lt_ rfl, ?_⟩
  refine Hold.h ?_
  refine wb_letH h (fun steps_here4 => [.sh (.adr b), .sh ((eD kZ (eP (eT eI) eI)) drawn_here1), .sh (eI most2), .own ((eL (eP eZ eI)) steps_here4), .own ((eL (eP eZ eI)) ([] : List ((S × Int)))), .no]) rfl fun steps_here4 h => ?_
  refine Hold.h ?_
  refine wb_letH h (fun found5 => [.sh (.adr b), .sh ((eD kZ (eP (eT eI) eI)) drawn_here1), .sh (eI most2), .own ((eL (eP eZ eI)) steps_here4), .own ((eL (eP eZ eI)) found5), .no]) rfl fun found5 h => ?_
  -- 326
  refine Hold.h ?_
  refine wb_forOH (β := (List ((S × Int)) × Bh)) [5] (σT := (List ((S × Int))) × Bh) (fun s6 => [.sh (.adr b), .sh ((eD kZ (eP (eT eI) eI)) drawn_here1), .sh (eI most2), .own ((eL (eP eZ eI)) steps_here4), .own ((eL (eP eZ eI)) s6.1), .no]) (fun s6 => bxH G0 b g s6.2) eI hp rfl ?_
  refine wi_rng1 rfl B.range ?_
  refine we_bin ?_
  refine we_int ?_
  refine we_cal tk c_law_next hr rfl ?_
  refine wa_cons ?_
  refine we_var 0 rfl (by walk_at "vis") rfl ?_
  refine ⟨_, _, rfl, ?_⟩
  refine wa_cons ?_
  refine we_var 2 rfl (by walk_at "vis") rfl ?_
  refine ⟨_, _, rfl, ?_⟩
  refine wa_nil ?_
  refine ⟨most2, G0, b, g, bx, hne, rfl, rfl, (Out.sb h).imp (fun r9 h => ?_) (fun _ he => he.elim)⟩
  refine ⟨_, _, .inl rfl, .inl rfl, ?_⟩
  refine opw_add ?_
  obtain ⟨g10, h⟩ := Out.gd h
  refine ⟨((1 : Int) + r9.1), rfl, g10, ?_⟩
  refine ⟨(rgI 0 ((1 : Int) + r9.1)), (found5, r9.2), _, _, _, _, rfl, (.eq (.eq (.eq (.eq (.eq (.no .nil)))))), rfl, h, fun s6 x8 Q' h => ?_, fun s7 h => ?_⟩
  · skip
    refine wg_name 5 nd rfl (by walk_at "vis") (by decide) (lt_ rfl) ?_
    change WB _ _ [.sh (.adr b), .sh ((eD kZ (eP (eT eI) eI)) drawn_here1), .sh (eI most2), .own ((eL (eP eZ eI)) steps_here4), .own ((eL (eP eZ eI)) s6.1), .sh (eI x8)] _ _
    -- 327
    refine wb_cons (ws_expr ?_)
    refine we_appendT (f := (eP eZ eI)) ?_
    refine we_var 4 rfl (by walk_at "vis") rfl ?_
    refine ⟨_, s6.1, rfl, rfl, ?_⟩
    refine we_ix (fun _ _ => rfl) ?_
    refine we_var 3 rfl (by walk_at "vis") rfl ?_
    refine we_cal tk c_law_next hr rfl ?_
    refine wa_cons ?_
    refine we_var 0 rfl (by walk_at "vis") rfl ?_
    refine ⟨_, _, rfl, ?_⟩
    refine wa_cons ?_
    refine we_b1 (x := "len") (id := "len") rfl B.len bt_len ?_
    refine we_var 3 rfl (by walk_at "vis") rfl ?_
    refine ⟨_, .inl rfl, ?_⟩
    refine t_len (f := (eP eZ eI)) steps_here4 ?_
    refine ⟨_, _, rfl, ?_⟩
    refine wa_nil ?_
    refine ⟨((steps_here4).length : Int), G0, b, g, s6.2, hne, rfl, rfl, (Out.sb h).imp (fun r12 h => ?_) (fun _ he => he.elim)⟩
    obtain ⟨x13, hx13, h⟩ := Out.gt h
    refine ⟨_, _, .inl rfl, .inl rfl, ?_⟩
    refine t_ix (f := (eP eZ eI)) hx13 ?_
    obtain ⟨g14, h⟩ := Out.gd h
    refine ⟨x13, _, s6.1, rfl, rfl, g14, ?_⟩
    refine Hold.h ?_
    refine wb_letH h (fun found15 => [.sh (.adr b), .sh ((eD kZ (eP (eT eI) eI)) drawn_here1), .sh (eI most2), .own ((eL (eP eZ eI)) steps_here4), .own ((eL (eP eZ eI)) found15), .sh (eI x8)]) rfl fun found15 h => ?_
    exact wb_nil ⟨(found15, r12.2), (.eq (.eq (.eq (.eq (.eq (.no .nil)))))), rfl, h⟩
  -- 328
  refine wb_cons (ws_ret ?_)
  refine we_var 4 rfl (by walk_at "vis") rfl ?_
  refine ⟨_, rfl, ?_⟩
  exact h
theorem ok_law {f : Addr} {fd : FuncData} (F : Fun K "law" "law" s_law f fd) (B : Bn mg) (c_law_alike_0 : Cal P w K mg base "_law_alike" 3 ["_law_found", "_law_due"] (alikeF 0)) (c_law_mix : Cal P w K mg base "_law_mix" 3 ["_law_script", "_law_seed"] (FMix m_law_mix)) (c_law_drawn : Cal P w K mg base "_law_drawn" 7 ["_law_h", "_law_most", "_law_wide"] (FBh (A := Int × Int) (R := List (S × (List Int × Int))) (fun a => [eI a.1, eI a.2]) (fun v => .fr ((eD kZ (eP (eT eI) eI)) v)) (fun a => m_law_drawn a.1 a.2))) (c_law_marks : Cal P w K mg base "_law_marks" 5 ["_law_h", "_law_most", "_law_wide"] (FBh (A := Int × Int) (R := List Int) (fun a => [eI a.1, eI a.2]) (fun v => .sh ((eT eI) v)) (fun a => m_law_marks a.1 a.2))) (c_law_next : Cal P w K mg base "_law_next" 3 ["_law_h", "_law_limit"] (FBh (A := Int) (R := Int) (fun a => [eI a]) (fun v => .sh (eI v)) (fun a => m_law_next a))) (c_law_rack : Cal P w K mg base "_law_rack" 8 ["_law_drawn_here"] (FM cx (A := List (S × (List Int × Int))) (R := Rak) (fun a => [(eD kZ (eP (eT eI) eI)) a]) (fun v => .sh ((eRak C_Rack C_Ruler) v)) (fun a => m_law_rack a))) (c_law_row : Cal P w K mg base "_law_row" 7 ["_law_h", "_law_drawn_here", "_law_most"] (FBh (A := (List (S × (List Int × Int))) × Int) (R := List ((S × Int))) (fun a => [(eD kZ (eP (eT eI) eI)) a.1, eI a.2]) (fun v => .fr ((eL (eP eZ eI)) v)) (fun a => m_law_row a.1 a.2))) (c_bench_line : Cal P w K mg base "bench_line" 6 ["bench"] (FCOa cx C_Bench ns_Bench (σT := S_Bench) (A := Unit) (R := S) (fl_Bench C_Ruler C_Rack C_Scene) (fun o _ => [D.adr o]) (fun v => .sh (eZ v)) (fun s _ => m_bench_line s))) (c_drawing : Cal P w K mg base "drawing" 6 ["ruler"] (FM cx (A := Rul) (R := S) (fun a => [(eRul C_Ruler) a]) (fun v => .sh (eZ v)) (fun a => m_drawing a))) (k_Ruler : MakeD P w K mg base "Ruler" C_Ruler 5 ["self", "marks", "error"] (FMI cx (A := (List Int) × Int) (R := Rul) (fun a => [(eT eI) a.1, eI a.2]) (fun r => [.int r.error, .tup (r.marks.map D.int)]) (fun a => mk_Ruler a.1 a.2))) (cl_Bench : Clo_Bench K C_Bench) (d_Bench_lay : MethD P w K mg base C_Bench "lay" 8 ["self", "name", "step"] (FMO cx C_Bench ns_Bench (σT := S_Bench) (A := S × Int) (R := Int) (fl_Bench C_Ruler C_Rack C_Scene) (fun a => [eZ a.1, eI a.2]) (fun v => .sh (eI v)) (fun s a => m_Bench_lay s a.1 a.2))) (d_Bench_scratch : MethD P w K mg base C_Bench "scratch" 6 ["self"] (FMO cx C_Bench ns_Bench (σT := S_Bench) (A := Unit) (R := Bool) (fl_Bench C_Ruler C_Rack C_Scene) (fun _ => []) (fun v => .sh (eB v)) (fun s _ => m_Bench_scratch s))) (k_Bench : MakeO P w K mg base "Bench" C_Bench 7 ["self", "rack", "end"] (FIO cx C_Bench ns_Bench (σT := S_Bench) (A := Rak × Int) (fl_Bench C_Ruler C_Rack C_Scene) (fun a => [(eRak C_Rack C_Ruler) a.1, eI a.2]) (fun a => mk_Bench a.1 a.2))) : FnOk P w K mg base (L2.CX P w) 10 f fd ["_law_script"] (spD K (FLaw m_law)) := by
  refine def_ok F sc_law (fun ds G post px h => ?_) (fun cdv A outer s H E F0 T hr ds G0 post px h tk hp => ?_)
  · obtain ⟨_, rfl, _⟩ := h; rfl
  obtain ⟨script1, rfl, h⟩ := h
  unfold m_law at h
  try dsimp only at h
  have nd := sc_law.nd
  change WB _ _ [.sh (D.scr script1), .no, .no, .no, .no, .no, .no, .no, .no, .no, .no, .no, .no] _ _
  -- 330
  refine wb_cons ?_
  refine Hold.h ?_
  refine ws_setH 1 nd rfl (by walk_at "vis") ?_
  refine we_cal tk c_law_mix hr rfl ?_
  refine wa_cons ?_
  refine we_var 0 rfl (by walk_at "vis") rfl ?_
  refine ⟨_, _, rfl, ?_⟩
  refine wa_cons ?_
  refine we_int ?_
  refine ⟨_, _, rfl, ?_⟩
  refine wa_nil ?_
  obtain ⟨g2, h⟩ := Out.gd h
  refine ⟨script1, (45 : Int), g2, rfl, fun b g hne hb0 hg0 => ?_⟩
  rw [← mixT_pos (m := m_law_mix) (seed := (45 : Int)) g2]
  refine ⟨lt_ rfl, _, rfl, ?_⟩
  change WB _ _ [.sh (D.scr script1), .sh (.adr b), .no, .no, .no, .no, .no, .no, .no, .no, .no, .no, .no] _ _
  have hB : ∀ x', GS [bhA b g x'] (bxH G0 b g x') := fun x' => GS.boxH0 hne x'
  -- 331
  refine wb_forRG (β := Bool) [2] (σT := Bh) (ρ := (Bool × Bh)) (fun s3 => [.sh (D.scr script1), .sh (.adr b), .no, .no, .no, .no, .no, .no, .no, .no, .no, .no, .no]) (fun s3 G' => GS [bhA b g s3] G') eI (fun v => (fun v => .sh (eB v)) v.1) (fun _ _ => True) hp rfl ?_
  refine wi_rng1 rfl B.range ?_
  refine we_int ?_
  refine ⟨(5 : Int), rfl, ⟨by decide, by decide⟩, ?_⟩
  refine ⟨(rgI 0 (5 : Int)), (mixT m_law_mix script1 (45 : Int)), _, _, _, _, rfl, (.eq (.eq (.no (.no (.no (.no (.no (.no (.no (.no (.no (.no (.no .nil))))))))))))), (hB (mixT m_law_mix script1 (45 : Int))), h, fun s3 G6 x5 Q' hg h => ?_, (fun v G' _ h => h _), fun s4 G7 hg h => ?_⟩
  · skip
    obtain ⟨G0, hGe, hB⟩ : ∃ G0, G6 = bxH G0 b g s3 ∧ ∀ x', GS [bhA b g x'] (bxH G0 b g x') := ⟨_, (GS.boxH hg 0 rfl).2⟩
    subst hGe
    refine wg_name 2 nd rfl (by walk_at "vis") (by decide) (lt_ rfl) ?_
    change WB _ _ [.sh (D.scr script1), .sh (.adr b), .sh (eI x5), .no, .no, .no, .no, .no, .no, .no, .no, .no, .no] _ _
    -- 332
    refine wb_cons (ws_parT 3 4 rfl nd rfl rfl (by walk_at "vis") (by walk_at "vis") ?_)
    refine we_cal tk c_law_marks hr rfl ?_
    refine wa_cons ?_
    refine we_var 1 rfl (by walk_at "vis") rfl ?_
    refine ⟨_, _, rfl, ?_⟩
    refine wa_cons ?_
    refine we_int ?_
    refine ⟨_, _, rfl, ?_⟩
    refine wa_cons ?_
    refine we_ix (fun _ _ => rfl) ?_
    refine we_lst ?_
    refine wa_cons ?_
    refine we_int ?_
    refine ⟨_, _, rfl, ?_⟩
    refine wa_cons ?_
    refine we_int ?_
    refine ⟨_, _, rfl, ?_⟩
    refine wa_cons ?_
    refine we_int ?_
    refine ⟨_, _, rfl, ?_⟩
    refine wa_nil ?_
    refine ⟨lt_ rfl, ?_⟩
    refine we_cal tk c_law_next hr rfl ?_
    refine wa_cons ?_
    refine we_var 1 rfl (by walk_at "vis") rfl ?_
    refine ⟨_, _, rfl, ?_⟩
    refine wa_cons ?_
    refine we_int ?_
    refine ⟨_, _, rfl, ?_⟩
    refine wa_nil ?_
    refine ⟨(3 : Int), G0, b, g, s3, hne, rfl, rfl, (Out.sb h).imp (fun r9 h => ?_) (fun _ he => he.elim)⟩
    obtain ⟨x10, hx10, h⟩ := Out.gt h
    refine ⟨_, _, .inl rfl, .inl rfl, ?_⟩
    refine t_ix (f := eI) hx10 ?_
    refine ⟨_, _, rfl, ?_⟩
    refine wa_nil ?_
    refine ⟨((12 : Int), x10), G0, b, g, r9.2, hne, rfl, rfl, (Out.sb h).imp (fun r11 h => ?_) (fun _ he => he.elim)⟩
    refine ⟨_, _, rfl, ?_⟩
    refine we_str ?_
    refine ⟨_, _, rfl, lt_ rfl, lt_ rfl, ?_⟩
    refine Hold.h ?_
    refine wb_letH h (fun marks_here12 => [.sh (D.scr script1), .sh (.adr b), .sh (eI x5), .sh ((eT eI) marks_here12), .sh (eZ z_), .no, .no, .no, .no, .no, .no, .no, .no]) rfl fun marks_here12 h => ?_
    refine Hold.h ?_
    refine wb_letH h (fun due13 => [.sh (D.scr script1), .sh (.adr b), .sh (eI x5), .sh ((eT eI) marks_here12), .sh (eZ due13), .no, .no, .no, .no, .no, .no, .no, .no]) rfl fun due13 h => ?_
    -- 333
    refine Hold.h ?_
    refine wb_forOH (β := (Out.Rt (Bh) (Bool × Bh))) [5] (σT := S) (fun s14 => [.sh (D.scr script1), .sh (.adr b), .sh (eI x5), .sh ((eT eI) marks_here12), .sh (eZ s14), .no, .no, .no, .no, .no, .no, .no, .no]) (fun s14 => bxH G0 b g r11.2) eI hp rfl ?_
    refine wi_rng1 rfl B.range ?_
    refine we_bin ?_
    refine we_ix (fun _ _ => rfl) ?_
    refine we_var 3 rfl (by walk_at "vis") rfl ?_
    refine we_un rfl ?_
    refine we_int ?_
    refine ⟨_, rfl, ?_⟩
    obtain ⟨x17, hx17, h⟩ := Out.gt h
    refine ⟨_, _, .inl rfl, .inl rfl, ?_⟩
    refine t_ixT (f := eI) hx17 ?_
    refine we_int ?_
    refine ⟨_, _, .inl rfl, .inl rfl, ?_⟩
    refine opw_add ?_
    obtain ⟨g18, h⟩ := Out.gd h
    refine ⟨(x17 + (1 : Int)), rfl, g18, ?_⟩
    refine ⟨(rgI 0 (x17 + (1 : Int))), due13, _, _, _, _, rfl, (.eq (.eq (.eq (.eq (.eq (.no (.no (.no (.no (.no (.no (.no (.no .nil))))))))))))), rfl, h, fun s14 x16 Q' h => ?_, fun s15 h => ?_⟩
    · skip
      refine wg_name 5 nd rfl (by walk_at "vis") (by decide) (lt_ rfl) ?_
      change WB _ _ [.sh (D.scr script1), .sh (.adr b), .sh (eI x5), .sh ((eT eI) marks_here12), .sh (eZ s14), .sh (eI x16), .no, .no, .no, .no, .no, .no, .no] _ _
      -- 334
      refine wb_cons ?_
      refine Hold.h ?_
      refine ws_setH 4 nd rfl (by walk_at "vis") ?_
      refine we_bin ?_
      refine we_var 4 rfl (by walk_at "vis") rfl ?_
      refine we_ifP (en := eZ) (va := z__) (vb := z___) ?_
      refine wt_cmp rfl ?_
      refine we_var 5 rfl (by walk_at "vis") rfl ?_
      refine we_var 3 rfl (by walk_at "vis") rfl ?_
      refine ⟨_, _, .inl rfl, .inl rfl, ?_⟩
      refine opw_inT ?_
      refine ⟨_, rfl, ?_⟩
      refine ⟨fun _ => ?_, fun _ => ?_, ?_⟩
      · skip
        refine we_str ?_
        exact ⟨rfl, rfl, rfl⟩
      · skip
        refine we_str ?_
        exact ⟨rfl, rfl, rfl⟩
      obtain ⟨g19, h⟩ := Out.gd h
      refine ⟨_, _, .inl rfl, .inl rfl, ?_⟩
      refine t_catS s14 (if (decide (x16 ∈ marks_here12)) = true then z__ else z___) g19 ?_
      refine ⟨lt_ rfl, _, rfl, ?_⟩
      refine Hold.h ?_
      refine wb_letH h (fun due20 => [.sh (D.scr script1), .sh (.adr b), .sh (eI x5), .sh ((eT eI) marks_here12), .sh (eZ due20), .sh (eI x16), .no, .no, .no, .no, .no, .no, .no]) rfl fun due20 h => ?_
      exact wb_nil ⟨due20, (.eq (.eq (.eq (.eq (.eq (.no (.no (.no (.no (.no (.no (.no (.no .nil))))))))))))), rfl, h⟩
    -- 335
    refine wb_join (β := (Out.Rt (Bh) (Bool × Bh))) (σT := S) (fun s21 => [.sh (D.scr script1), .sh (.adr b), .sh (eI x5), .sh ((eT eI) marks_here12), .sh (eZ s21), .no, .no, .no, .no, .no, .no, .no, .no]) (fun s21 => bxH G0 b g r11.2) h (fun Q' h => ?_) (fun s21 h => ?_)
    · skip
      refine ws_if ?_
      refine wt_cmp (nomark _) ?_
      refine we_ix (fun _ _ => rfl) ?_
      refine we_var 3 rfl (by walk_at "vis") rfl ?_
      refine we_un rfl ?_
      refine we_int ?_
      refine ⟨_, rfl, ?_⟩
      obtain ⟨x22, hx22, h⟩ := Out.gt h
      refine ⟨_, _, .inl rfl, .inl rfl, ?_⟩
      refine t_ixT (f := eI) hx22 ?_
      refine we_int ?_
      refine ⟨_, _, .inl rfl, .inl rfl, ?_⟩
      refine opw_gt ?_
      refine ⟨_, rfl, ?_⟩
      refine ⟨fun hc => ?_, fun hc => ?_⟩
      · skip
        have h := (Out.iteb h).1 hc
        -- 336
        refine wb_cons ?_
        refine Hold.h ?_
        refine ws_setH 4 nd rfl (by walk_at "vis") ?_
        refine we_bin ?_
        refine we_str ?_
        refine we_joinT ?_
        refine we_str ?_
        refine ⟨z_, rfl, ?_⟩
        refine we_lcQ [("_law_k", 12)] rfl nd (blkOk_by (by rfl)) (lcS_preP (γ := (S)) [("_law_k", 12)] [.sh (D.scr script1), .sh (.adr b), .sh (eI x5), .sh ((eT eI) marks_here12), .sh (eZ s15), .no, .no, .no, .no, .no, .no, .no, .no] (fun _ : Unit => bxH G0 b g r11.2) (en := eI) eZ ?_)
        refine wi_rng2 rfl B.range ?_
        refine we_int ?_
        refine we_b1 (x := "len") (id := "len") rfl B.len bt_len ?_
        refine we_var 3 rfl (by walk_at "vis") rfl ?_
        refine ⟨_, .inl rfl, ?_⟩
        refine t_lenT (f := eI) marks_here12 ?_
        obtain ⟨g24, h⟩ := Out.gd h
        refine ⟨(1 : Int), ((marks_here12).length : Int), rfl, rfl, ⟨by decide, by decide⟩, g24, ?_⟩
        obtain ⟨g25, h⟩ := Out.gd h
        refine ⟨(rgI (1 : Int) ((marks_here12).length : Int)), (), _, _, _, _, rfl, g25, Wk.refl _, rfl, h, fun s26 x23 Q' h => ?_, fun l27 h => ?_⟩
        · skip
          rintro Y ⟨s1, H1, C1, cl, fp, rfl⟩
          refine wg_name 12 nd rfl (by walk_at "vis") (by decide) (lt_ rfl) ?_
          rintro Y ⟨s1, H1, C1, cl, fp, rfl⟩
          refine we_bin ?_
          refine we_t1 (x := "str") (id := "str") rfl B.str bt_str ?_
          refine we_bin ?_
          refine we_ix (fun _ _ => rfl) ?_
          refine we_var 3 rfl (by walk_at "vis") rfl ?_
          refine we_var 12 rfl (by walk_at "vis") rfl ?_
          obtain ⟨x28, hx28, h⟩ := Out.gt h
          refine ⟨_, _, .inl rfl, .inl rfl, ?_⟩
          refine t_ixT (f := eI) hx28 ?_
          refine we_ix (fun _ _ => rfl) ?_
          refine we_var 3 rfl (by walk_at "vis") rfl ?_
          refine we_bin ?_
          refine we_var 12 rfl (by walk_at "vis") rfl ?_
          refine we_int ?_
          refine ⟨_, _, .inl rfl, .inl rfl, ?_⟩
          refine opw_sub ?_
          obtain ⟨x29, hx29, h⟩ := Out.gt h
          refine ⟨_, _, .inl rfl, .inl rfl, ?_⟩
          refine t_ixT (f := eI) hx29 ?_
          refine ⟨_, _, .inl rfl, .inl rfl, ?_⟩
          refine opw_sub ?_
          refine ⟨_, .inl rfl, ?_⟩
          obtain ⟨g30, h⟩ := Out.gd h
          refine c_strI g30 ?_
          refine we_str ?_
          obtain ⟨g31, h⟩ := Out.gd h
          refine ⟨_, _, .inl rfl, .inl rfl, ?_⟩
          refine t_catS (zint (x28 - x29)) z__ g31 ?_
          exact ⟨(zcat (zint (x28 - x29)) z__), (), _, rfl, Wk.refl _, rfl, h⟩
        obtain ⟨g32, h⟩ := Out.gd h
        refine ⟨l27.1, .inl rfl, g32, ?_⟩
        obtain ⟨g33, h⟩ := Out.gd h
        refine ⟨_, _, .inl rfl, .inl rfl, ?_⟩
        refine t_catS z__ (zjoin z_ l27.1) g33 ?_
        refine ⟨lt_ rfl, _, rfl, ?_⟩
        refine Hold.h ?_
        refine wb_letH h (fun due34 => [.sh (D.scr script1), .sh (.adr b), .sh (eI x5), .sh ((eT eI) marks_here12), .sh (eZ due34), .no, .no, .no, .no, .no, .no, .no, .no]) rfl fun due34 h => ?_
        exact wb_nil ⟨due34, (.eq (.eq (.eq (.eq (.eq (.no (.no (.no (.no (.no (.no (.no (.no .nil))))))))))))), rfl, h⟩
      have h := (Out.iteb h).2 hc
      exact wb_nil ⟨s15, (.eq (.eq (.eq (.eq (.eq (.no (.no (.no (.no (.no (.no (.no (.no .nil))))))))))))), rfl, h⟩
    -- 337
    refine wb_cons (ws_if ?_)
    refine wt_not ?_
    refine wt_val (fun _ => rfl) ?_
    refine we_cal tk c_law_alike_0 hr rfl ?_
    refine wa_cons ?_
    refine we_cal tk c_drawing hr rfl ?_
    refine wa_cons ?_
    refine we_make tk k_Ruler hr rfl ?_
    refine wa_cons ?_
    refine we_var 3 rfl (by walk_at "vis") rfl ?_
    refine ⟨_, _, rfl, ?_⟩
    refine wa_cons ?_
    refine we_int ?_
    refine ⟨_, _, rfl, ?_⟩
    refine wa_nil ?_
    refine ⟨(marks_here12, (0 : Int)), rfl, (Out.sb h).imp (fun r35 h => ?_) (fun _ he => he.elim)⟩
    refine ⟨_, _, rfl, ?_⟩
    refine wa_nil ?_
    refine ⟨r35, rfl, (Out.sb h).imp (fun r36 h => ?_) (fun _ he => he.elim)⟩
    refine ⟨_, _, rfl, ?_⟩
    refine wa_cons ?_
    refine we_var 4 rfl (by walk_at "vis") rfl ?_
    refine ⟨_, _, rfl, ?_⟩
    refine wa_nil ?_
    obtain ⟨g37, h⟩ := Out.gd h
    refine ⟨eZ r36, congrArg (fun z => [eZ r36, z]) (congrArg eZ g37.1).symm, g37.2, ?_⟩
    refine ⟨_, rfl, ?_⟩
    refine ⟨fun hc => ?_, fun hc => ?_⟩
    · skip
      have h := (Out.iteb h).1 hc
      -- 338
      refine wb_cons (ws_ret ?_)
      refine we_bl ?_
      refine ⟨_, rfl, ?_⟩
      exact ⟨(false, r11.2), rfl, trivial, h⟩
    have h := (Out.iteb h).2 hc
    refine wb_nil ?_
    -- 339
    refine wb_cons (ws_par 6 7 rfl nd rfl rfl (by decide) rfl rfl (by rfl) ?_)
    refine we_cal tk c_law_drawn hr rfl ?_
    refine wa_cons ?_
    refine we_var 1 rfl (by walk_at "vis") rfl ?_
    refine ⟨_, _, rfl, ?_⟩
    refine wa_cons ?_
    refine we_int ?_
    refine ⟨_, _, rfl, ?_⟩
    refine wa_cons ?_
    refine we_int ?_
    refine ⟨_, _, rfl, ?_⟩
    refine wa_nil ?_
    refine ⟨((2 : Int), (5 : Int)), G0, b, g, r11.2, hne, rfl, rfl, (Out.sb h).imp (fun r38 h => ?_) (fun _ he => he.elim)⟩
    refine ⟨_, _, rfl, ?_⟩
    refine we_bin ?_
    refine we_int ?_
    refine we_cal tk c_law_next hr rfl ?_
    refine wa_cons ?_
    refine we_var 1 rfl (by walk_at "vis") rfl ?_
    refine ⟨_, _, rfl, ?_⟩
    refine wa_cons ?_
    refine we_int ?_
    refine ⟨_, _, rfl, ?_⟩
    refine wa_nil ?_
    refine ⟨(30 : Int), G0, b, g, r38.2, hne, rfl, rfl, (Out.sb h).imp (fun r39 h => ?_) (fun _ he => he.elim)⟩
    refine ⟨_, _, .inl rfl, .inl rfl, ?_⟩
    refine opw_add ?_
    refine ⟨_, _, rfl, lt_ rfl, lt_ rfl, ?_⟩
    refine Hold.h ?_
    refine wb_letH h (fun drawn_here40 => [.sh (D.scr script1), .sh (.adr b), .sh (eI x5), .sh ((eT eI) marks_here12), .sh (eZ s21), .no, .own ((eD kZ (eP (eT eI) eI)) drawn_here40), .sh (eI ((1 : Int) + r39.1)), .no, .no, .no, .no, .no]) rfl fun drawn_here40 h => ?_
    refine Hold.h ?_
    refine wb_letH h (fun end41 => [.sh (D.scr script1), .sh (.adr b), .sh (eI x5), .sh ((eT eI) marks_here12), .sh (eZ s21), .no, .own ((eD kZ (eP (eT eI) eI)) drawn_here40), .sh (eI end41), .no, .no, .no, .no, .no]) rfl fun end41 h => ?_
    -- 340
    refine wb_cons (ws_parT3 8 5 9 rfl nd rfl rfl rfl (by walk_at "vis") (by walk_at "vis") (by walk_at "vis") ?_)
    refine we_makeC tk k_Bench hr rfl ?_
    refine wa_cons ?_
    refine we_cal tk c_law_rack hr rfl ?_
    refine wa_cons ?_
    refine we_lockV ?_
    refine we_var 6 rfl (by walk_at "vis") rfl ?_
    refine ⟨_, _, _, rfl, rfl, ?_⟩
    refine ⟨_, _, rfl, ?_⟩
    refine wa_nil ?_
    refine ⟨drawn_here40, rfl, (Out.sb h).imp (fun r42 h => ?_) (fun _ he => he.elim)⟩
    refine ⟨_, _, rfl, ?_⟩
    refine wa_cons ?_
    refine we_var 7 rfl (by walk_at "vis") rfl ?_
    refine ⟨_, _, rfl, ?_⟩
    refine wa_nil ?_
    refine ⟨(r42, end41), rfl, (Out.sb h).imp (fun r43 h o44 fp1 G45 hP1 hF1 => ?_) (fun _ (he : False) => he.elim)⟩
    have hS : GS [bhA b g r39.2, obA C_Bench o44 ns_Bench (fl_Bench C_Ruler C_Rack C_Scene r43)] G45 := (hB r39.2).add (obA_ok _ _ _ _) hP1 (fun b_ hb_ => hF1.1 b_ (fun z => nomatch z) hb_) (fun b_ hb_ => (hF1.2 b_ hb_).resolve_left (fun z => nomatch z))
    obtain ⟨G0, hGe, hB⟩ : ∃ G0, G45 = bxH G0 b g r39.2 ∧ ∀ x', GS [bhA b g x', obA C_Bench o44 ns_Bench (fl_Bench C_Ruler C_Rack C_Scene r43)] (bxH G0 b g x') := ⟨_, (GS.boxH hS 0 rfl).2⟩
    subst hGe
    refine ⟨_, _, rfl, ?_⟩
    refine we_int ?_
    refine ⟨_, _, rfl, ?_⟩
    refine we_lst ?_
    refine wa_nil ?_
    refine ⟨by decide, ?_⟩
    refine ⟨_, _, rfl, lt_ rfl, lt_ rfl, lt_ rfl, ?_⟩
    change WB _ _ [.sh (D.scr script1), .sh (.adr b), .sh (eI x5), .sh ((eT eI) marks_here12), .sh (eZ s21), .sh (eI (0 : Int)), .sh ((eD kZ (eP (eT eI) eI)) drawn_here40), .sh (eI end41), .sh (.adr o44), .own ((eL eI) ([] : List Int)), .no, .no, .no] _ _
    refine Hold.h ?_
    refine wb_letH h (fun place46 => [.sh (D.scr script1), .sh (.adr b), .sh (eI x5), .sh ((eT eI) marks_here12), .sh (eZ s21), .sh (eI place46), .sh ((eD kZ (eP (eT eI) eI)) drawn_here40), .sh (eI end41), .sh (.adr o44), .own ((eL eI) ([] : List Int)), .no, .no, .no]) rfl fun place46 h => ?_
    refine Hold.h ?_
    refine wb_letH h (fun cuts47 => [.sh (D.scr script1), .sh (.adr b), .sh (eI x5), .sh ((eT eI) marks_here12), .sh (eZ s21), .sh (eI place46), .sh ((eD kZ (eP (eT eI) eI)) drawn_here40), .sh (eI end41), .sh (.adr o44), .own ((eL eI) cuts47), .no, .no, .no]) rfl fun cuts47 h => ?_
    -- 341
    refine wb_forOG (β := (Out.Rt (Bh) (Bool × Bh))) [10, 11] (σT := Int × (List Int) × S_Bench × Bh) (fun s48 => [.sh (D.scr script1), .sh (.adr b), .sh (eI x5), .sh ((eT eI) marks_here12), .sh (eZ s21), .sh (eI s48.1), .sh ((eD kZ (eP (eT eI) eI)) drawn_here40), .sh (eI end41), .sh (.adr o44), .own ((eL eI) s48.2.1), .no, .no, .no]) (fun s48 G' => GS [bhA b g s48.2.2.2, obA C_Bench o44 ns_Bench (fl_Bench C_Ruler C_Rack C_Scene s48.2.2.1)] G') (eP eZ eI) hp rfl ?_
    refine ti_lst (f := (eP eZ eI)) ?_
    refine we_cal tk c_law_row hr rfl ?_
    refine wa_cons ?_
    refine we_var 1 rfl (by walk_at "vis") rfl ?_
    refine ⟨_, _, rfl, ?_⟩
    refine wa_cons ?_
    refine we_var 6 rfl (by walk_at "vis") rfl ?_
    refine ⟨_, _, rfl, ?_⟩
    refine wa_cons ?_
    refine we_int ?_
    refine ⟨_, _, rfl, ?_⟩
    refine wa_nil ?_
    refine ⟨(drawn_here40, (9 : Int)), G0, b, g, r39.2, hne, rfl, rfl, (Out.sb h).imp (fun r51 h => ?_) (fun _ he => he.elim)⟩
    refine ⟨r51.1, _, rfl, fun hl52 => ?_⟩
    refine ⟨r51.1, (place46, cuts47, r43, r51.2), _, _, _, _, rfl, (.eq (.eq (.eq (.eq (.eq (.eq (.eq (.eq (.eq (.eq (.no (.no (.no .nil))))))))))))), (hB r51.2), h, fun s48 G53 x50 Q' hg h => ?_, fun s49 G54 hg h => ?_⟩
    · skip
      obtain ⟨G0, hGe, hB⟩ : ∃ G0, G53 = bxH G0 b g s48.2.2.2 ∧ ∀ x', GS [bhA b g x', obA C_Bench o44 ns_Bench (fl_Bench C_Ruler C_Rack C_Scene s48.2.2.1)] (bxH G0 b g x') := ⟨_, (GS.boxH hg 0 rfl).2⟩
      subst hGe
      refine wg_pair 10 11 rfl nd rfl rfl (by walk_at "vis") (by walk_at "vis") (by decide) (by decide) (lt_ rfl) (lt_ rfl) ?_
      change WB _ _ [.sh (D.scr script1), .sh (.adr b), .sh (eI x5), .sh ((eT eI) marks_here12), .sh (eZ s21), .sh (eI s48.1), .sh ((eD kZ (eP (eT eI) eI)) drawn_here40), .sh (eI end41), .sh (.adr o44), .own ((eL eI) s48.2.1), .sh (eZ x50.1), .sh (eI x50.2), .no] _ _
      -- 342
      refine wb_joinG (β := (Int × (List Int) × S_Bench × Bh)) (σT := Int × (List Int) × S_Bench × Bh) (fun s56 => [.sh (D.scr script1), .sh (.adr b), .sh (eI x5), .sh ((eT eI) marks_here12), .sh (eZ s21), .sh (eI s56.1), .sh ((eD kZ (eP (eT eI) eI)) drawn_here40), .sh (eI end41), .sh (.adr o44), .own ((eL eI) s56.2.1), .sh (eZ x50.1), .sh (eI x50.2), .no]) (fun s56 G' => GS [bhA b g s56.2.2.2, obA C_Bench o44 ns_Bench (fl_Bench C_Ruler C_Rack C_Scene s56.2.2.1)] G') h (fun Q' h => ?_) (fun s56 G57 hg h => ?_)
      · skip
        refine ws_if ?_
        refine wt_chainI (fun i j R q => opw_le q) (fun i j R q => opw_le q) ?_
        refine we_int ?_
        refine we_bin ?_
        refine we_var 5 rfl (by walk_at "vis") rfl ?_
        refine we_var 11 rfl (by walk_at "vis") rfl ?_
        refine ⟨_, _, .inl rfl, .inl rfl, ?_⟩
        refine opw_add ?_
        refine ⟨_, _, end41, rfl, rfl, fun _ => ?_, ?_⟩
        · skip
          refine we_var 7 rfl (by walk_at "vis") rfl ?_
          exact ⟨rfl, rfl, rfl⟩
        refine ⟨fun hc => ?_, fun hc => ?_⟩
        · skip
          have h := (Out.iteb h).1 hc
          -- 343
          refine wb_cons ?_
          refine Hold.h ?_
          refine ws_setH 5 nd rfl (by walk_at "vis") ?_
          refine we_methM tk cl_Bench.cls d_Bench_lay hr rfl ?_
          refine we_var 8 rfl (by walk_at "vis") rfl ?_
          obtain ⟨_, _, hP58, hu59⟩ := (hB s48.2.2.2).at 1 rfl
          refine ⟨s48.2.2.1, _, _, rfl, hP58, ?_⟩
          refine wa_cons ?_
          refine we_var 10 rfl (by walk_at "vis") rfl ?_
          refine ⟨_, _, rfl, ?_⟩
          refine wa_cons ?_
          refine we_var 11 rfl (by walk_at "vis") rfl ?_
          refine ⟨_, _, rfl, ?_⟩
          refine wa_nil ?_
          obtain ⟨_, _, hP60, hu61⟩ := (hB s48.2.2.2).at 1 rfl
          refine ⟨(x50.1, x50.2), _, rfl, hP60, (Out.sb h).imp (fun r62 h fp1 G63 hP1 hF1 => ?_) (fun _ (he : False) => he.elim)⟩
          have hS : GS [bhA b g s48.2.2.2, obA C_Bench o44 ns_Bench (fl_Bench C_Ruler C_Rack C_Scene r62.2)] G63 := hu61 _ _ _ (obA_ok _ _ _ _) hP1 hF1
          obtain ⟨G0, hGe, hB⟩ : ∃ G0, G63 = bxH G0 b g s48.2.2.2 ∧ ∀ x', GS [bhA b g x', obA C_Bench o44 ns_Bench (fl_Bench C_Ruler C_Rack C_Scene r62.2)] (bxH G0 b g x') := ⟨_, (GS.boxH hS 0 rfl).2⟩
          subst hGe
          refine ⟨lt_ rfl, _, rfl, ?_⟩
          change WB _ _ [.sh (D.scr script1), .sh (.adr b), .sh (eI x5), .sh ((eT eI) marks_here12), .sh (eZ s21), .sh (eI r62.1), .sh ((eD kZ (eP (eT eI) eI)) drawn_here40), .sh (eI end41), .sh (.adr o44), .own ((eL eI) s48.2.1), .sh (eZ x50.1), .sh (eI x50.2), .no] _ _
          -- 344
          refine wb_joinG (β := (Int × (List Int) × S_Bench × Bh)) (σT := (List Int) × S_Bench × Bh) (fun s64 => [.sh (D.scr script1), .sh (.adr b), .sh (eI x5), .sh ((eT eI) marks_here12), .sh (eZ s21), .sh (eI r62.1), .sh ((eD kZ (eP (eT eI) eI)) drawn_here40), .sh (eI end41), .sh (.adr o44), .own ((eL eI) s64.1), .sh (eZ x50.1), .sh (eI x50.2), .no]) (fun s64 G' => GS [bhA b g s64.2.2, obA C_Bench o44 ns_Bench (fl_Bench C_Ruler C_Rack C_Scene s64.2.1)] G') h (fun Q' h => ?_) (fun s64 G65 hg h => ?_)
          · skip
            refine ws_if ?_
            refine wt_cmp (nomark _) ?_
            refine we_cal tk c_law_next hr rfl ?_
            refine wa_cons ?_
            refine we_var 1 rfl (by walk_at "vis") rfl ?_
            refine ⟨_, _, rfl, ?_⟩
            refine wa_cons ?_
            refine we_int ?_
            refine ⟨_, _, rfl, ?_⟩
            refine wa_nil ?_
            refine ⟨(2 : Int), G0, b, g, s48.2.2.2, hne, rfl, rfl, (Out.sb h).imp (fun r66 h => ?_) (fun _ he => he.elim)⟩
            refine we_int ?_
            refine ⟨_, _, .inl rfl, .inl rfl, ?_⟩
            refine opw_eqI ?_
            refine ⟨_, rfl, ?_⟩
            refine ⟨fun hc => ?_, fun hc => ?_⟩
            · skip
              have h := (Out.iteb h).1 hc
              -- 345
              refine wb_cons (ws_expr ?_)
              refine we_methM0 tk cl_Bench.cls d_Bench_scratch hr rfl ?_
              refine we_var 8 rfl (by walk_at "vis") rfl ?_
              obtain ⟨_, _, hP67, hu68⟩ := (hB r66.2).at 1 rfl
              refine ⟨r62.2, _, _, rfl, hP67, (Out.sb h).imp (fun r69 h fp1 G70 hP1 hF1 => ?_) (fun _ (he : False) => he.elim)⟩
              have hS : GS [bhA b g r66.2, obA C_Bench o44 ns_Bench (fl_Bench C_Ruler C_Rack C_Scene r69.2)] G70 := hu68 _ _ _ (obA_ok _ _ _ _) hP1 hF1
              obtain ⟨G0, hGe, hB⟩ : ∃ G0, G70 = bxH G0 b g r66.2 ∧ ∀ x', GS [bhA b g x', obA C_Bench o44 ns_Bench (fl_Bench C_Ruler C_Rack C_Scene r69.2)] (bxH G0 b g x') := ⟨_, (GS.boxH hS 0 rfl).2⟩
              subst hGe
              -- 346
              refine wb_cons (ws_expr ?_)
              refine we_appendT (f := eI) ?_
              refine we_var 9 rfl (by walk_at "vis") rfl ?_
              refine ⟨_, s48.2.1, rfl, rfl, ?_⟩
              refine we_var 5 rfl (by walk_at "vis") rfl ?_
              obtain ⟨g72, h⟩ := Out.gd h
              refine ⟨r62.1, _, s48.2.1, rfl, rfl, g72, ?_⟩
              refine Hold.h ?_
              refine wb_letH h (fun cuts73 => [.sh (D.scr script1), .sh (.adr b), .sh (eI x5), .sh ((eT eI) marks_here12), .sh (eZ s21), .sh (eI r62.1), .sh ((eD kZ (eP (eT eI) eI)) drawn_here40), .sh (eI end41), .sh (.adr o44), .own ((eL eI) cuts73), .sh (eZ x50.1), .sh (eI x50.2), .no]) rfl fun cuts73 h => ?_
              exact wb_nil ⟨(cuts73, r69.2, r66.2), (.eq (.eq (.eq (.eq (.eq (.eq (.eq (.eq (.eq (.eq (.eq (.eq (.no .nil))))))))))))), (hB r66.2), h⟩
            have h := (Out.iteb h).2 hc
            exact wb_nil ⟨(s48.2.1, r62.2, r66.2), (.eq (.eq (.eq (.eq (.eq (.eq (.eq (.eq (.eq (.eq (.eq (.eq (.no .nil))))))))))))), (hB r66.2), h⟩
          obtain ⟨G0, hGe, hB⟩ : ∃ G0, G65 = bxH G0 b g s64.2.2 ∧ ∀ x', GS [bhA b g x', obA C_Bench o44 ns_Bench (fl_Bench C_Ruler C_Rack C_Scene s64.2.1)] (bxH G0 b g x') := ⟨_, (GS.boxH hg 0 rfl).2⟩
          subst hGe
          exact wb_nil ⟨(r62.1, s64.1, s64.2.1, s64.2.2), (.eq (.eq (.eq (.eq (.eq (.eq (.eq (.eq (.eq (.eq (.eq (.eq (.no .nil))))))))))))), (hB s64.2.2), h⟩
        have h := (Out.iteb h).2 hc
        exact wb_nil ⟨(s48.1, s48.2.1, s48.2.2.1, s48.2.2.2), (.eq (.eq (.eq (.eq (.eq (.eq (.eq (.eq (.eq (.eq (.eq (.eq (.no .nil))))))))))))), (hB s48.2.2.2), h⟩
      obtain ⟨G0, hGe, hB⟩ : ∃ G0, G57 = bxH G0 b g s56.2.2.2 ∧ ∀ x', GS [bhA b g x', obA C_Bench o44 ns_Bench (fl_Bench C_Ruler C_Rack C_Scene s56.2.2.1)] (bxH G0 b g x') := ⟨_, (GS.boxH hg 0 rfl).2⟩
      subst hGe
      exact wb_nil ⟨(s56.1, s56.2.1, s56.2.2.1, s56.2.2.2), (.eq (.eq (.eq (.eq (.eq (.eq (.eq (.eq (.eq (.eq (.no (.no (.no .nil))))))))))))), (hB s56.2.2.2), h⟩
    obtain ⟨G0, hGe, hB⟩ : ∃ G0, G54 = bxH G0 b g s49.2.2.2 ∧ ∀ x', GS [bhA b g x', obA C_Bench o44 ns_Bench (fl_Bench C_Ruler C_Rack C_Scene s49.2.2.1)] (bxH G0 b g x') := ⟨_, (GS.boxH hg 0 rfl).2⟩
    subst hGe
    -- 347
    refine wb_cons ?_
    refine Hold.h ?_
    refine ws_setH 4 nd rfl (by walk_at "vis") ?_
    refine we_joinT ?_
    refine we_str ?_
    refine ⟨z_, rfl, ?_⟩
    refine we_lcQ [("_law_k", 12)] rfl nd (blkOk_by (by rfl)) (lc0_pre [("_law_k", 12)] [.sh (D.scr script1), .sh (.adr b), .sh (eI x5), .sh ((eT eI) marks_here12), .sh (eZ s21), .sh (eI s49.1), .sh ((eD kZ (eP (eT eI) eI)) drawn_here40), .sh (eI end41), .sh (.adr o44), .own ((eL eI) s49.2.1), .no, .no, .no] (en := eI) eZ (fun (x74 : Int) => if (decide (x74 = s49.1)) = true then z____ else if (decide (x74 ∈ s49.2.1)) = true then z_x else z_____) ?_)
    refine wi_rng1 rfl B.range ?_
    refine we_bin ?_
    refine we_var 7 rfl (by walk_at "vis") rfl ?_
    refine we_int ?_
    refine ⟨_, _, .inl rfl, .inl rfl, ?_⟩
    refine opw_add ?_
    obtain ⟨g75, h⟩ := Out.gd h
    refine ⟨(end41 + (1 : Int)), rfl, g75, ?_⟩
    obtain ⟨g76, h⟩ := Out.gd h
    refine ⟨(rgI 0 (end41 + (1 : Int))), rfl, g76, Wk.refl _, fun x74 => ?_, ?_⟩
    · skip
      rintro Y ⟨s1, H1, C1, cl, fp, rfl⟩
      refine wg_name 12 nd rfl (by walk_at "vis") (by decide) (lt_ rfl) ?_
      rintro Y ⟨s1, H1, C1, cl, fp, rfl⟩
      refine we_ifP (en := eZ) (va := z____) (vb := if (decide (x74 ∈ s49.2.1)) = true then z_x else z_____) ?_
      refine wt_cmp (nomark _) ?_
      refine we_var 12 rfl (by walk_at "vis") rfl ?_
      refine we_var 5 rfl (by walk_at "vis") rfl ?_
      refine ⟨_, _, .inl rfl, .inl rfl, ?_⟩
      refine opw_eqI ?_
      refine ⟨_, rfl, ?_⟩
      refine ⟨fun _ => ?_, fun _ => ?_, ?_⟩
      · skip
        refine we_str ?_
        exact ⟨rfl, rfl, rfl⟩
      · skip
        refine we_ifP (en := eZ) (va := z_x) (vb := z_____) ?_
        refine wt_cmp rfl ?_
        refine we_var 12 rfl (by walk_at "vis") rfl ?_
        refine we_var 9 rfl (by walk_at "vis") rfl ?_
        refine ⟨_, _, .inl rfl, .inl rfl, ?_⟩
        refine opw_in ?_
        refine ⟨_, rfl, ?_⟩
        refine ⟨fun _ => ?_, fun _ => ?_, ?_⟩
        · skip
          refine we_str ?_
          exact ⟨rfl, rfl, rfl⟩
        · skip
          refine we_str ?_
          exact ⟨rfl, rfl, rfl⟩
        exact ⟨rfl, rfl, rfl⟩
      exact ⟨_, rfl, Wk.refl _, rfl⟩
    obtain ⟨g77, h⟩ := Out.gd h
    refine ⟨((rgI 0 (end41 + (1 : Int))).map (fun (x74 : Int) => if (decide (x74 = s49.1)) = true then z____ else if (decide (x74 ∈ s49.2.1)) = true then z_x else z_____)), .inl rfl, g77, ?_⟩
    refine ⟨lt_ rfl, _, rfl, ?_⟩
    refine Hold.h ?_
    refine wb_letH h (fun due78 => [.sh (D.scr script1), .sh (.adr b), .sh (eI x5), .sh ((eT eI) marks_here12), .sh (eZ due78), .sh (eI s49.1), .sh ((eD kZ (eP (eT eI) eI)) drawn_here40), .sh (eI end41), .sh (.adr o44), .own ((eL eI) s49.2.1), .no, .no, .no]) rfl fun due78 h => ?_
    -- 348
    refine wb_cons (ws_if ?_)
    refine wt_not ?_
    refine wt_val (fun _ => rfl) ?_
    refine we_cal tk c_law_alike_0 hr rfl ?_
    refine wa_cons ?_
    refine we_cal tk c_bench_line hr rfl ?_
    refine wa_cons ?_
    refine we_var 8 rfl (by walk_at "vis") rfl ?_
    refine ⟨_, _, rfl, ?_⟩
    refine wa_nil ?_
    obtain ⟨_, _, hP79, hu80⟩ := (hB s49.2.2.2).at 1 rfl
    refine ⟨s49.2.2.1, (), _, _, rfl, hP79, (Out.sb h).imp (fun r81 h => ?_) (fun _ (he : False) => he.elim)⟩
    refine ⟨_, _, rfl, ?_⟩
    refine wa_cons ?_
    refine we_var 4 rfl (by walk_at "vis") rfl ?_
    refine ⟨_, _, rfl, ?_⟩
    refine wa_nil ?_
    obtain ⟨g82, h⟩ := Out.gd h
    refine ⟨eZ r81, congrArg (fun z => [eZ r81, z]) (congrArg eZ g82.1).symm, g82.2, ?_⟩
    refine ⟨_, rfl, ?_⟩
    refine ⟨fun hc => ?_, fun hc => ?_⟩
    · skip
      have h := (Out.iteb h).1 hc
      -- 349
      refine wb_cons (ws_ret ?_)
      refine we_bl ?_
      refine ⟨_, rfl, ?_⟩
      exact ⟨(false, s49.2.2.2), rfl, trivial, h⟩
    have h := (Out.iteb h).2 hc
    refine wb_nil ?_
    exact wb_nil ⟨s49.2.2.2, (.eq (.eq (.no (.no (.no (.no (.no (.no (.no (.no (.no (.no (.no .nil))))))))))))), ((hB s49.2.2.2).take 1), h⟩
  obtain ⟨G0, hGe, hB⟩ : ∃ G0, G7 = bxH G0 b g s4 ∧ ∀ x', GS [bhA b g x'] (bxH G0 b g x') := ⟨_, (GS.boxH hg 0 rfl).2⟩
  subst hGe
  -- 350
  refine wb_cons (ws_ret ?_)
  refine we_andN ?_
  refine we_cmp (nomark _) ?_
  refine we_cal tk c_drawing hr rfl ?_
  refine wa_cons ?_
  refine we_make tk k_Ruler hr rfl ?_
  refine wa_cons ?_
  refine we_tup ?_
  refine wa_cons ?_
  refine we_int ?_
  refine ⟨_, _, rfl, ?_⟩
  refine wa_cons ?_
  refine we_int ?_
  refine ⟨_, _, rfl, ?_⟩
  refine wa_nil ?_
  refine ⟨lt_ rfl, ?_⟩
  refine ⟨_, _, rfl, ?_⟩
  refine wa_cons ?_
  refine we_int ?_
  refine ⟨_, _, rfl, ?_⟩
  refine wa_nil ?_
  refine ⟨([(0 : Int), (60 : Int)], (9 : Int)), rfl, (Out.sb h).imp (fun r83 h => ?_) (fun _ he => he.elim)⟩
  refine ⟨_, _, rfl, ?_⟩
  refine wa_nil ?_
  refine ⟨r83, rfl, (Out.sb h).imp (fun r84 h => ?_) (fun _ he => he.elim)⟩
  refine we_bin ?_
  refine we_bin ?_
  refine we_str ?_
  refine we_bin ?_
  refine we_str ?_
  refine we_int ?_
  obtain ⟨g85, h⟩ := Out.gd h
  refine ⟨_, _, .inl rfl, .inl rfl, ?_⟩
  refine t_mulS z___ (59 : Int) g85 ?_
  obtain ⟨g86, h⟩ := Out.gd h
  refine ⟨_, _, .inl rfl, .inl rfl, ?_⟩
  refine t_catS z__ (zmul z___ (59 : Int)) g86 ?_
  refine we_str ?_
  obtain ⟨g87, h⟩ := Out.gd h
  refine ⟨_, _, .inl rfl, .inl rfl, ?_⟩
  refine t_catS (zcat z__ (zmul z___ (59 : Int))) z__ g87 ?_
  refine ⟨_, _, .inl rfl, .inl rfl, ?_⟩
  refine opw_eqC eqc_str hr.units r84 (zcat (zcat z__ (zmul z___ (59 : Int))) z__) ?_
  refine ⟨_, _, _, _, _, _, rfl, h, fun _ Q' h => ?_, fun c88 h => ?_⟩
  · skip
    refine we_one ?_
    refine we_cmp (nomark _) ?_
    refine we_cal tk c_drawing hr rfl ?_
    refine wa_cons ?_
    refine we_make tk k_Ruler hr rfl ?_
    refine wa_cons ?_
    refine we_tup ?_
    refine wa_cons ?_
    refine we_int ?_
    refine ⟨_, _, rfl, ?_⟩
    refine wa_cons ?_
    refine we_int ?_
    refine ⟨_, _, rfl, ?_⟩
    refine wa_cons ?_
    refine we_int ?_
    refine ⟨_, _, rfl, ?_⟩
    refine wa_nil ?_
    refine ⟨lt_ rfl, ?_⟩
    refine ⟨_, _, rfl, ?_⟩
    refine wa_cons ?_
    refine we_int ?_
    refine ⟨_, _, rfl, ?_⟩
    refine wa_nil ?_
    refine ⟨([(0 : Int), (12 : Int), (61 : Int)], (9 : Int)), rfl, (Out.sb h).imp (fun r89 h => ?_) (fun _ he => he.elim)⟩
    refine ⟨_, _, rfl, ?_⟩
    refine wa_nil ?_
    refine ⟨r89, rfl, (Out.sb h).imp (fun r90 h => ?_) (fun _ he => he.elim)⟩
    refine we_str ?_
    refine ⟨_, _, .inl rfl, .inl rfl, ?_⟩
    refine opw_eqC eqc_str hr.units r90 z__12_49_ ?_
    exact ⟨_, rfl, rfl, rfl, h⟩
  refine ⟨_, rfl, ?_⟩
  exact h _
theorem law_sp {K : PySem.W.Frag} {H : Hp} {a : Addr} {ns : List Int} (hl : ns.length ≤ 63) (hS : SqL K H a (ns.map V.int)) : spD K (FLaw m_law) [.ref a] H (fun v _ => v = .bl true) fun _ _ _ => False :=
  ⟨H, fun _ => none, [.scr ns], fun x _ => x = .sh (.bl true), fun _ _ => False, Ex.refl _, (fun _ _ h => nomatch h), (fun _ _ h => nomatch h), ⟨_, _, rfl, ⟨a, rfl, hS⟩, rfl⟩, ⟨ns, rfl, by rw [law_true ns hl]; exact fun _ => rfl⟩, (fun x G' v H' F' hp B rt => by subst hp; exact rt), fun _ _ _ _ _ _ z => z.elim⟩
theorem all_mk {l : PySem.W.OpenLaw} {w : World} {K : PySem.W.Frag} {h : Heap} {mg : Str → Option Value} {fa : Addr} (cx : Nat → Addr) (X : K.In h) (G : h.Ns mainGlobals mg) (hfa : mg "law" = some (.ref fa))
    {t_LETTERS : Tok} {t_MAX_LETTERS : Tok} {t_MAX_RULERS : Tok} {t_MAX_ERROR : Tok} {t_MAX_LENGTH : Tok} {t_MAX_MARKS : Tok} {t_MIN_MARKS : Tok} {t_CUT : Tok} {t_FREE : Tok} {t_HERE : Tok} {t_BETWEEN : Tok} {t_MARK_SIGN : Tok} {t_MAX_DRAWN : Tok} {t_LAY : Tok} {t_SCRATCH : Tok} {t_MAX_END : Tok} {C_Ruler : Addr} {q_Ruler_own_error : Addr} {q_Ruler_own_marks : Addr} {C_Rack : Addr} {q_Rack_held : Addr} {C_Scene : Addr} {q_Scene_cuts : Addr} {q_Scene_errors : Addr} {q_Scene_laid : Addr} {q_Scene_spot : Addr} {C_Bench : Addr} {f_law_alike : Addr} {oc1 kV1 dc1 pm1 cd1 ct1 : Value} {od1 an1 : Option Addr} {sl1 : Array (Option Value)} {f_law_mix : Addr} {oc2 kV2 dc2 pm2 cd2 ct2 : Value} {od2 an2 : Option Addr} {sl2 : Array (Option Value)} {f_law_next : Addr} {oc3 kV3 dc3 pm3 cd3 ct3 : Value} {od3 an3 : Option Addr} {sl3 : Array (Option Value)} {f_law_marks : Addr} {oc4 kV4 dc4 pm4 cd4 ct4 : Value} {od4 an4 : Option Addr} {sl4 : Array (Option Value)} {f_law_drawn : Addr} {oc5 kV5 dc5 pm5 cd5 ct5 : Value} {od5 an5 : Option Addr} {sl5 : Array (Option Value)} {f_is_name : Addr} {oc6 kV6 dc6 pm6 cd6 ct6 : Value} {od6 an6 : Option Addr} {sl6 : Array (Option Value)} {f_Rack_init : Addr} {oc7 kV7 dc7 pm7 cd7 ct7 : Value} {od7 an7 : Option Addr} {sl7 : Array (Option Value)} {f_is_number : Addr} {oc8 kV8 dc8 pm8 cd8 ct8 : Value} {od8 an8 : Option Addr} {sl8 : Array (Option Value)} {f_Ruler_init : Addr} {oc9 kV9 dc9 pm9 cd9 ct9 : Value} {od9 an9 : Option Addr} {sl9 : Array (Option Value)} {f_law_rack : Addr} {oc10 kV10 dc10 pm10 cd10 ct10 : Value} {od10 an10 : Option Addr} {sl10 : Array (Option Value)} {f_law_spans : Addr} {oc11 kV11 dc11 pm11 cd11 ct11 : Value} {od11 an11 : Option Addr} {sl11 : Array (Option Value)} {f_law_steps : Addr} {oc12 kV12 dc12 pm12 cd12 ct12 : Value} {od12 an12 : Option Addr} {sl12 : Array (Option Value)} {f_law_row : Addr} {oc13 kV13 dc13 pm13 cd13 ct13 : Value} {od13 an13 : Option Addr} {sl13 : Array (Option Value)} {f_Bench_place : Addr} {p_Bench_place : Addr} {r_Bench_place : List Value} {oc14 kV14 dc14 pm14 cd14 ct14 : Value} {od14 an14 : Option Addr} {sl14 : Array (Option Value)} {f_Bench_scratches : Addr} {p_Bench_scratches : Addr} {r_Bench_scratches : List Value} {oc15 kV15 dc15 pm15 cd15 ct15 : Value} {od15 an15 : Option Addr} {sl15 : Array (Option Value)} {f_bench_line : Addr} {oc16 kV16 dc16 pm16 cd16 ct16 : Value} {od16 an16 : Option Addr} {sl16 : Array (Option Value)} {f_Ruler_length : Addr} {p_Ruler_length : Addr} {r_Ruler_length : List Value} {oc17 kV17 dc17 pm17 cd17 ct17 : Value} {od17 an17 : Option Addr} {sl17 : Array (Option Value)} {f_Ruler_marks : Addr} {p_Ruler_marks : Addr} {r_Ruler_marks : List Value} {oc18 kV18 dc18 pm18 cd18 ct18 : Value} {od18 an18 : Option Addr} {sl18 : Array (Option Value)} {f_drawing : Addr} {oc19 kV19 dc19 pm19 cd19 ct19 : Value} {od19 an19 : Option Addr} {sl19 : Array (Option Value)} {f_Bench_enter : Addr} {oc20 kV20 dc20 pm20 cd20 ct20 : Value} {od20 an20 : Option Addr} {sl20 : Array (Option Value)} {f_Scene_init : Addr} {oc21 kV21 dc21 pm21 cd21 ct21 : Value} {od21 an21 : Option Addr} {sl21 : Array (Option Value)} {f_Ruler_error : Addr} {p_Ruler_error : Addr} {r_Ruler_error : List Value} {oc22 kV22 dc22 pm22 cd22 ct22 : Value} {od22 an22 : Option Addr} {sl22 : Array (Option Value)} {f_Rack_getitem : Addr} {oc23 kV23 dc23 pm23 cd23 ct23 : Value} {od23 an23 : Option Addr} {sl23 : Array (Option Value)} {f_Bench_laid_on : Addr} {oc24 kV24 dc24 pm24 cd24 ct24 : Value} {od24 an24 : Option Addr} {sl24 : Array (Option Value)} {f_spread_of : Addr} {oc25 kV25 dc25 pm25 cd25 ct25 : Value} {od25 an25 : Option Addr} {sl25 : Array (Option Value)} {f_Ruler_spans : Addr} {p_Ruler_spans : Addr} {r_Ruler_spans : List Value} {oc26 kV26 dc26 pm26 cd26 ct26 : Value} {od26 an26 : Option Addr} {sl26 : Array (Option Value)} {f_Bench_lay : Addr} {oc27 kV27 dc27 pm27 cd27 ct27 : Value} {od27 an27 : Option Addr} {sl27 : Array (Option Value)} {f_Bench_scratch : Addr} {oc28 kV28 dc28 pm28 cd28 ct28 : Value} {od28 an28 : Option Addr} {sl28 : Array (Option Value)} {f_validate_places : Addr} {oc29 kV29 dc29 pm29 cd29 ct29 : Value} {od29 an29 : Option Addr} {sl29 : Array (Option Value)} {f_Bench_init : Addr} {oc30 kV30 dc30 pm30 cd30 ct30 : Value} {od30 an30 : Option Addr} {sl30 : Array (Option Value)} {f_law : Addr} {oc31 kV31 dc31 pm31 cd31 ct31 : Value} {od31 an31 : Option Addr} {sl31 : Array (Option Value)}
    (z_int : PySem.W.nsIn K mainGlobals "int" = some none)
    (z_len : PySem.W.nsIn K mainGlobals "len" = some none)
    (z_list : PySem.W.nsIn K mainGlobals "list" = some none)
    (z_range : PySem.W.nsIn K mainGlobals "range" = some none)
    (z_sorted : PySem.W.nsIn K mainGlobals "sorted" = some none)
    (z_tuple : PySem.W.nsIn K mainGlobals "tuple" = some none)
    (z_dict : PySem.W.nsIn K mainGlobals "dict" = some none)
    (z_isinstance : PySem.W.nsIn K mainGlobals "isinstance" = some none)
    (z_bool : PySem.W.nsIn K mainGlobals "bool" = some none)
    (z_str : PySem.W.nsIn K mainGlobals "str" = some none)
    (z_enumerate : PySem.W.nsIn K mainGlobals "enumerate" = some none)
    (z_reversed : PySem.W.nsIn K mainGlobals "reversed" = some none)
    (z_abs : PySem.W.nsIn K mainGlobals "abs" = some none)
    (z_min : PySem.W.nsIn K mainGlobals "min" = some none)
    (z_max : PySem.W.nsIn K mainGlobals "max" = some none)
    (z_sum : PySem.W.nsIn K mainGlobals "sum" = some none)
    (z_zip : PySem.W.nsIn K mainGlobals "zip" = some none)
    (z_set : PySem.W.nsIn K mainGlobals "set" = some none)
    (z_all : PySem.W.nsIn K mainGlobals "all" = some none)
    (z_divmod : PySem.W.nsIn K mainGlobals "divmod" = some none)
    (g_LETTERS : PySem.W.nsIn K mainGlobals "LETTERS" = some (some (.str "abcdefghijklmnopqrstuvwxyz" t_LETTERS)))
    (g_MAX_LETTERS : PySem.W.nsIn K mainGlobals "MAX_LETTERS" = some (some (.int 8 t_MAX_LETTERS)))
    (g_MAX_RULERS : PySem.W.nsIn K mainGlobals "MAX_RULERS" = some (some (.int 6 t_MAX_RULERS)))
    (g_MAX_ERROR : PySem.W.nsIn K mainGlobals "MAX_ERROR" = some (some (.int 9 t_MAX_ERROR)))
    (g_MAX_LENGTH : PySem.W.nsIn K mainGlobals "MAX_LENGTH" = some (some (.int 300 t_MAX_LENGTH)))
    (g_MAX_MARKS : PySem.W.nsIn K mainGlobals "MAX_MARKS" = some (some (.int 12 t_MAX_MARKS)))
    (g_MIN_MARKS : PySem.W.nsIn K mainGlobals "MIN_MARKS" = some (some (.int 2 t_MIN_MARKS)))
    (g_CUT : PySem.W.nsIn K mainGlobals "CUT" = some (some (.str "x" t_CUT)))
    (g_FREE : PySem.W.nsIn K mainGlobals "FREE" = some (some (.str "." t_FREE)))
    (g_HERE : PySem.W.nsIn K mainGlobals "HERE" = some (some (.str "@" t_HERE)))
    (g_BETWEEN : PySem.W.nsIn K mainGlobals "BETWEEN" = some (some (.str "-" t_BETWEEN)))
    (g_MARK_SIGN : PySem.W.nsIn K mainGlobals "MARK_SIGN" = some (some (.str "|" t_MARK_SIGN)))
    (g_MAX_DRAWN : PySem.W.nsIn K mainGlobals "MAX_DRAWN" = some (some (.int 60 t_MAX_DRAWN)))
    (g_LAY : PySem.W.nsIn K mainGlobals "LAY" = some (some (.str "lay" t_LAY)))
    (g_SCRATCH : PySem.W.nsIn K mainGlobals "SCRATCH" = some (some (.str "scratch" t_SCRATCH)))
    (g_MAX_END : PySem.W.nsIn K mainGlobals "MAX_END" = some (some (.int 200 t_MAX_END)))
    (g_Ruler : PySem.W.nsIn K mainGlobals "Ruler" = some (some (.ref C_Ruler)))
    (pg_Ruler : PySem.W.plainGet K C_Ruler Str.empty = true)
    (ic_Ruler : PySem.W.isClsIn K C_Ruler = true)
    (po_Ruler : PySem.W.plainOver K C_Ruler = true)
    (sa_Ruler : PySem.W.findIn K (.ref C_Ruler) "__setattr__" = some (some (.builtin "object.__setattr__")))
    (ca_Ruler : PySem.W.findIn K (.ref C_Ruler) "__class__" = some (some (.builtin "object.__class__")))
    (cn_Ruler : PySem.W.specialIn K (.builtin "object.__class__") "__get__" = some (some (.builtin "getset_descriptor.__get__")))
    (ct_Ruler : PySem.W.takesIn K (.builtin "object.__class__") = some true)
    (cm_Ruler : PySem.W.mroIn K C_Ruler (.type "object") = some true)
    (sa_Ruler_own_error : PySem.W.findIn K (.ref C_Ruler) "own_error" = some (some (.ref q_Ruler_own_error)))
    (sg_Ruler_own_error : PySem.W.specialIn K (.ref q_Ruler_own_error) "__get__" = some (some (.builtin "member_descriptor.__get__")))
    (sk_Ruler_own_error : PySem.W.takesIn K (.ref q_Ruler_own_error) = some true)
    (sy_Ruler_own_error : PySem.W.typeIn K (.ref q_Ruler_own_error) = some (.type "member_descriptor"))
    (sx_Ruler_own_error : PySem.W.slotIn K q_Ruler_own_error C_Ruler = some 0)
    (sa_Ruler_own_marks : PySem.W.findIn K (.ref C_Ruler) "own_marks" = some (some (.ref q_Ruler_own_marks)))
    (sg_Ruler_own_marks : PySem.W.specialIn K (.ref q_Ruler_own_marks) "__get__" = some (some (.builtin "member_descriptor.__get__")))
    (sk_Ruler_own_marks : PySem.W.takesIn K (.ref q_Ruler_own_marks) = some true)
    (sy_Ruler_own_marks : PySem.W.typeIn K (.ref q_Ruler_own_marks) = some (.type "member_descriptor"))
    (sx_Ruler_own_marks : PySem.W.slotIn K q_Ruler_own_marks C_Ruler = some 1)
    (nf_Ruler : PySem.W.notFirst K C_Ruler (.ref C_Ruler) = true)
    (g_Rack : PySem.W.nsIn K mainGlobals "Rack" = some (some (.ref C_Rack)))
    (pg_Rack : PySem.W.plainGet K C_Rack Str.empty = true)
    (ic_Rack : PySem.W.isClsIn K C_Rack = true)
    (po_Rack : PySem.W.plainOver K C_Rack = true)
    (sa_Rack : PySem.W.findIn K (.ref C_Rack) "__setattr__" = some (some (.builtin "object.__setattr__")))
    (ca_Rack : PySem.W.findIn K (.ref C_Rack) "__class__" = some (some (.builtin "object.__class__")))
    (cn_Rack : PySem.W.specialIn K (.builtin "object.__class__") "__get__" = some (some (.builtin "getset_descriptor.__get__")))
    (ct_Rack : PySem.W.takesIn K (.builtin "object.__class__") = some true)
    (cm_Rack : PySem.W.mroIn K C_Rack (.type "object") = some true)
    (sa_Rack_held : PySem.W.findIn K (.ref C_Rack) "held" = some (some (.ref q_Rack_held)))
    (sg_Rack_held : PySem.W.specialIn K (.ref q_Rack_held) "__get__" = some (some (.builtin "member_descriptor.__get__")))
    (sk_Rack_held : PySem.W.takesIn K (.ref q_Rack_held) = some true)
    (sy_Rack_held : PySem.W.typeIn K (.ref q_Rack_held) = some (.type "member_descriptor"))
    (sx_Rack_held : PySem.W.slotIn K q_Rack_held C_Rack = some 0)
    (nf_Rack : PySem.W.notFirst K C_Rack (.ref C_Rack) = true)
    (g_Scene : PySem.W.nsIn K mainGlobals "Scene" = some (some (.ref C_Scene)))
    (pg_Scene : PySem.W.plainGet K C_Scene Str.empty = true)
    (ic_Scene : PySem.W.isClsIn K C_Scene = true)
    (po_Scene : PySem.W.plainOver K C_Scene = true)
    (sa_Scene : PySem.W.findIn K (.ref C_Scene) "__setattr__" = some (some (.builtin "object.__setattr__")))
    (ca_Scene : PySem.W.findIn K (.ref C_Scene) "__class__" = some (some (.builtin "object.__class__")))
    (cn_Scene : PySem.W.specialIn K (.builtin "object.__class__") "__get__" = some (some (.builtin "getset_descriptor.__get__")))
    (ct_Scene : PySem.W.takesIn K (.builtin "object.__class__") = some true)
    (cm_Scene : PySem.W.mroIn K C_Scene (.type "object") = some true)
    (sa_Scene_cuts : PySem.W.findIn K (.ref C_Scene) "cuts" = some (some (.ref q_Scene_cuts)))
    (sg_Scene_cuts : PySem.W.specialIn K (.ref q_Scene_cuts) "__get__" = some (some (.builtin "member_descriptor.__get__")))
    (sk_Scene_cuts : PySem.W.takesIn K (.ref q_Scene_cuts) = some true)
    (sy_Scene_cuts : PySem.W.typeIn K (.ref q_Scene_cuts) = some (.type "member_descriptor"))
    (sx_Scene_cuts : PySem.W.slotIn K q_Scene_cuts C_Scene = some 0)
    (sa_Scene_errors : PySem.W.findIn K (.ref C_Scene) "errors" = some (some (.ref q_Scene_errors)))
    (sg_Scene_errors : PySem.W.specialIn K (.ref q_Scene_errors) "__get__" = some (some (.builtin "member_descriptor.__get__")))
    (sk_Scene_errors : PySem.W.takesIn K (.ref q_Scene_errors) = some true)
    (sy_Scene_errors : PySem.W.typeIn K (.ref q_Scene_errors) = some (.type "member_descriptor"))
    (sx_Scene_errors : PySem.W.slotIn K q_Scene_errors C_Scene = some 1)
    (sa_Scene_laid : PySem.W.findIn K (.ref C_Scene) "laid" = some (some (.ref q_Scene_laid)))
    (sg_Scene_laid : PySem.W.specialIn K (.ref q_Scene_laid) "__get__" = some (some (.builtin "member_descriptor.__get__")))
    (sk_Scene_laid : PySem.W.takesIn K (.ref q_Scene_laid) = some true)
    (sy_Scene_laid : PySem.W.typeIn K (.ref q_Scene_laid) = some (.type "member_descriptor"))
    (sx_Scene_laid : PySem.W.slotIn K q_Scene_laid C_Scene = some 2)
    (sa_Scene_spot : PySem.W.findIn K (.ref C_Scene) "spot" = some (some (.ref q_Scene_spot)))
    (sg_Scene_spot : PySem.W.specialIn K (.ref q_Scene_spot) "__get__" = some (some (.builtin "member_descriptor.__get__")))
    (sk_Scene_spot : PySem.W.takesIn K (.ref q_Scene_spot) = some true)
    (sy_Scene_spot : PySem.W.typeIn K (.ref q_Scene_spot) = some (.type "member_descriptor"))
    (sx_Scene_spot : PySem.W.slotIn K q_Scene_spot C_Scene = some 3)
    (nf_Scene : PySem.W.notFirst K C_Scene (.ref C_Scene) = true)
    (g_Bench : PySem.W.nsIn K mainGlobals "Bench" = some (some (.ref C_Bench)))
    (pg_Bench : PySem.W.plainGet K C_Bench Str.empty = true)
    (hd_Bench : PySem.W.hasDictIn K C_Bench = true)
    (po_Bench : PySem.W.plainOver K C_Bench = true)
    (sa_Bench : PySem.W.findIn K (.ref C_Bench) "__setattr__" = some (some (.builtin "object.__setattr__")))
    (na_Bench_rack_used : PySem.W.findIn K (.ref C_Bench) "rack_used" = some none)
    (na_Bench_last : PySem.W.findIn K (.ref C_Bench) "last" = some none)
    (na_Bench_scene : PySem.W.findIn K (.ref C_Bench) "scene" = some none)
    (na_Bench_marked : PySem.W.findIn K (.ref C_Bench) "marked" = some none)
    (na_Bench_past : PySem.W.findIn K (.ref C_Bench) "past" = some none)
    (na_Bench_later : PySem.W.findIn K (.ref C_Bench) "later" = some none)
    (a_law_alike : PySem.W.nsIn K mainGlobals "_law_alike" = some (some (.ref f_law_alike)))
    (l_law_alike : K.lookup f_law_alike = some ⟨oc1, od1, .func (PySem.W.fnOf "_law_alike" "_law_alike" (defArgs s_law_alike) (defBody s_law_alike) (defScope s_law_alike) .none kV1 dc1 pm1 an1 cd1 ct1), sl1⟩)
    (c_law_alike : PySem.W.codeIn K cd1 "_law_alike" = true)
    (kp_law_alike : PySem.W.keepIn K (.ref f_law_alike) = true)
    (a_law_mix : PySem.W.nsIn K mainGlobals "_law_mix" = some (some (.ref f_law_mix)))
    (l_law_mix : K.lookup f_law_mix = some ⟨oc2, od2, .func (PySem.W.fnOf "_law_mix" "_law_mix" (defArgs s_law_mix) (defBody s_law_mix) (defScope s_law_mix) .none kV2 dc2 pm2 an2 cd2 ct2), sl2⟩)
    (c_law_mix : PySem.W.codeIn K cd2 "_law_mix" = true)
    (kp_law_mix : PySem.W.keepIn K (.ref f_law_mix) = true)
    (a_law_next : PySem.W.nsIn K mainGlobals "_law_next" = some (some (.ref f_law_next)))
    (l_law_next : K.lookup f_law_next = some ⟨oc3, od3, .func (PySem.W.fnOf "_law_next" "_law_next" (defArgs s_law_next) (defBody s_law_next) (defScope s_law_next) .none kV3 dc3 pm3 an3 cd3 ct3), sl3⟩)
    (c_law_next : PySem.W.codeIn K cd3 "_law_next" = true)
    (kp_law_next : PySem.W.keepIn K (.ref f_law_next) = true)
    (a_law_marks : PySem.W.nsIn K mainGlobals "_law_marks" = some (some (.ref f_law_marks)))
    (l_law_marks : K.lookup f_law_marks = some ⟨oc4, od4, .func (PySem.W.fnOf "_law_marks" "_law_marks" (defArgs s_law_marks) (defBody s_law_marks) (defScope s_law_marks) .none kV4 dc4 pm4 an4 cd4 ct4), sl4⟩)
    (c_law_marks : PySem.W.codeIn K cd4 "_law_marks" = true)
    (kp_law_marks : PySem.W.keepIn K (.ref f_law_marks) = true)
    (a_law_drawn : PySem.W.nsIn K mainGlobals "_law_drawn" = some (some (.ref f_law_drawn)))
    (l_law_drawn : K.lookup f_law_drawn = some ⟨oc5, od5, .func (PySem.W.fnOf "_law_drawn" "_law_drawn" (defArgs s_law_drawn) (defBody s_law_drawn) (defScope s_law_drawn) .none kV5 dc5 pm5 an5 cd5 ct5), sl5⟩)
    (c_law_drawn : PySem.W.codeIn K cd5 "_law_drawn" = true)
    (kp_law_drawn : PySem.W.keepIn K (.ref f_law_drawn) = true)
    (a_is_name : PySem.W.nsIn K mainGlobals "is_name" = some (some (.ref f_is_name)))
    (l_is_name : K.lookup f_is_name = some ⟨oc6, od6, .func (PySem.W.fnOf "is_name" "is_name" (defArgs s_is_name) (defBody s_is_name) (defScope s_is_name) .none kV6 dc6 pm6 an6 cd6 ct6), sl6⟩)
    (c_is_name : PySem.W.codeIn K cd6 "is_name" = true)
    (kp_is_name : PySem.W.keepIn K (.ref f_is_name) = true)
    (at_Rack_init : PySem.W.findIn K (.ref C_Rack) "__init__" = some (some (.ref f_Rack_init)))
    (fn_Rack_init : PySem.W.isFn K (.ref f_Rack_init) = true)
    (l_Rack_init : K.lookup f_Rack_init = some ⟨oc7, od7, .func (PySem.W.fnOf "__init__" "Rack.__init__" (defArgs s_Rack_init) (defBody s_Rack_init) (defScope s_Rack_init) .none kV7 dc7 pm7 an7 cd7 ct7), sl7⟩)
    (c_Rack_init : PySem.W.codeIn K cd7 "Rack.__init__" = true)
    (kp_Rack_init : PySem.W.keepIn K (.ref f_Rack_init) = true)
    (mki_Rack : PySem.W.makesIn K C_Rack = true)
    (kc_Rack : PySem.W.keepIn K (.ref C_Rack) = true)
    (a_is_number : PySem.W.nsIn K mainGlobals "is_number" = some (some (.ref f_is_number)))
    (l_is_number : K.lookup f_is_number = some ⟨oc8, od8, .func (PySem.W.fnOf "is_number" "is_number" (defArgs s_is_number) (defBody s_is_number) (defScope s_is_number) .none kV8 dc8 pm8 an8 cd8 ct8), sl8⟩)
    (c_is_number : PySem.W.codeIn K cd8 "is_number" = true)
    (kp_is_number : PySem.W.keepIn K (.ref f_is_number) = true)
    (at_Ruler_init : PySem.W.findIn K (.ref C_Ruler) "__init__" = some (some (.ref f_Ruler_init)))
    (fn_Ruler_init : PySem.W.isFn K (.ref f_Ruler_init) = true)
    (l_Ruler_init : K.lookup f_Ruler_init = some ⟨oc9, od9, .func (PySem.W.fnOf "__init__" "Ruler.__init__" (defArgs s_Ruler_init) (defBody s_Ruler_init) (defScope s_Ruler_init) .none kV9 dc9 pm9 an9 cd9 ct9), sl9⟩)
    (c_Ruler_init : PySem.W.codeIn K cd9 "Ruler.__init__" = true)
    (kp_Ruler_init : PySem.W.keepIn K (.ref f_Ruler_init) = true)
    (mki_Ruler : PySem.W.makesIn K C_Ruler = true)
    (kc_Ruler : PySem.W.keepIn K (.ref C_Ruler) = true)
    (a_law_rack : PySem.W.nsIn K mainGlobals "_law_rack" = some (some (.ref f_law_rack)))
    (l_law_rack : K.lookup f_law_rack = some ⟨oc10, od10, .func (PySem.W.fnOf "_law_rack" "_law_rack" (defArgs s_law_rack) (defBody s_law_rack) (defScope s_law_rack) .none kV10 dc10 pm10 an10 cd10 ct10), sl10⟩)
    (c_law_rack : PySem.W.codeIn K cd10 "_law_rack" = true)
    (kp_law_rack : PySem.W.keepIn K (.ref f_law_rack) = true)
    (a_law_spans : PySem.W.nsIn K mainGlobals "_law_spans" = some (some (.ref f_law_spans)))
    (l_law_spans : K.lookup f_law_spans = some ⟨oc11, od11, .func (PySem.W.fnOf "_law_spans" "_law_spans" (defArgs s_law_spans) (defBody s_law_spans) (defScope s_law_spans) .none kV11 dc11 pm11 an11 cd11 ct11), sl11⟩)
    (c_law_spans : PySem.W.codeIn K cd11 "_law_spans" = true)
    (kp_law_spans : PySem.W.keepIn K (.ref f_law_spans) = true)
    (a_law_steps : PySem.W.nsIn K mainGlobals "_law_steps" = some (some (.ref f_law_steps)))
    (l_law_steps : K.lookup f_law_steps = some ⟨oc12, od12, .func (PySem.W.fnOf "_law_steps" "_law_steps" (defArgs s_law_steps) (defBody s_law_steps) (defScope s_law_steps) .none kV12 dc12 pm12 an12 cd12 ct12), sl12⟩)
    (c_law_steps : PySem.W.codeIn K cd12 "_law_steps" = true)
    (kp_law_steps : PySem.W.keepIn K (.ref f_law_steps) = true)
    (a_law_row : PySem.W.nsIn K mainGlobals "_law_row" = some (some (.ref f_law_row)))
    (l_law_row : K.lookup f_law_row = some ⟨oc13, od13, .func (PySem.W.fnOf "_law_row" "_law_row" (defArgs s_law_row) (defBody s_law_row) (defScope s_law_row) .none kV13 dc13 pm13 an13 cd13 ct13), sl13⟩)
    (c_law_row : PySem.W.codeIn K cd13 "_law_row" = true)
    (kp_law_row : PySem.W.keepIn K (.ref f_law_row) = true)
    (at_Bench_place : PySem.W.findIn K (.ref C_Bench) "place" = some (some (.ref p_Bench_place)))
    (sp_Bench_place : PySem.W.specialIn K (.ref p_Bench_place) "__get__" = some (some (.builtin "property.__get__")))
    (tk_Bench_place : PySem.W.takesIn K (.ref p_Bench_place) = some true)
    (rc_Bench_place : PySem.W.recIn K p_Bench_place "property" = some (.ref f_Bench_place :: r_Bench_place))
    (l_Bench_place : K.lookup f_Bench_place = some ⟨oc14, od14, .func (PySem.W.fnOf "place" "Bench.place" (defArgs s_Bench_place) (defBody s_Bench_place) (defScope s_Bench_place) .none kV14 dc14 pm14 an14 cd14 ct14), sl14⟩)
    (c_Bench_place : PySem.W.codeIn K cd14 "Bench.place" = true)
    (kp_Bench_place : PySem.W.keepIn K (.ref f_Bench_place) = true)
    (at_Bench_scratches : PySem.W.findIn K (.ref C_Bench) "scratches" = some (some (.ref p_Bench_scratches)))
    (sp_Bench_scratches : PySem.W.specialIn K (.ref p_Bench_scratches) "__get__" = some (some (.builtin "property.__get__")))
    (tk_Bench_scratches : PySem.W.takesIn K (.ref p_Bench_scratches) = some true)
    (rc_Bench_scratches : PySem.W.recIn K p_Bench_scratches "property" = some (.ref f_Bench_scratches :: r_Bench_scratches))
    (l_Bench_scratches : K.lookup f_Bench_scratches = some ⟨oc15, od15, .func (PySem.W.fnOf "scratches" "Bench.scratches" (defArgs s_Bench_scratches) (defBody s_Bench_scratches) (defScope s_Bench_scratches) .none kV15 dc15 pm15 an15 cd15 ct15), sl15⟩)
    (c_Bench_scratches : PySem.W.codeIn K cd15 "Bench.scratches" = true)
    (kp_Bench_scratches : PySem.W.keepIn K (.ref f_Bench_scratches) = true)
    (a_bench_line : PySem.W.nsIn K mainGlobals "bench_line" = some (some (.ref f_bench_line)))
    (l_bench_line : K.lookup f_bench_line = some ⟨oc16, od16, .func (PySem.W.fnOf "bench_line" "bench_line" (defArgs s_bench_line) (defBody s_bench_line) (defScope s_bench_line) .none kV16 dc16 pm16 an16 cd16 ct16), sl16⟩)
    (c_bench_line : PySem.W.codeIn K cd16 "bench_line" = true)
    (kp_bench_line : PySem.W.keepIn K (.ref f_bench_line) = true)
    (at_Ruler_length : PySem.W.findIn K (.ref C_Ruler) "length" = some (some (.ref p_Ruler_length)))
    (sp_Ruler_length : PySem.W.specialIn K (.ref p_Ruler_length) "__get__" = some (some (.builtin "property.__get__")))
    (tk_Ruler_length : PySem.W.takesIn K (.ref p_Ruler_length) = some true)
    (rc_Ruler_length : PySem.W.recIn K p_Ruler_length "property" = some (.ref f_Ruler_length :: r_Ruler_length))
    (l_Ruler_length : K.lookup f_Ruler_length = some ⟨oc17, od17, .func (PySem.W.fnOf "length" "Ruler.length" (defArgs s_Ruler_length) (defBody s_Ruler_length) (defScope s_Ruler_length) .none kV17 dc17 pm17 an17 cd17 ct17), sl17⟩)
    (c_Ruler_length : PySem.W.codeIn K cd17 "Ruler.length" = true)
    (kp_Ruler_length : PySem.W.keepIn K (.ref f_Ruler_length) = true)
    (at_Ruler_marks : PySem.W.findIn K (.ref C_Ruler) "marks" = some (some (.ref p_Ruler_marks)))
    (sp_Ruler_marks : PySem.W.specialIn K (.ref p_Ruler_marks) "__get__" = some (some (.builtin "property.__get__")))
    (tk_Ruler_marks : PySem.W.takesIn K (.ref p_Ruler_marks) = some true)
    (rc_Ruler_marks : PySem.W.recIn K p_Ruler_marks "property" = some (.ref f_Ruler_marks :: r_Ruler_marks))
    (l_Ruler_marks : K.lookup f_Ruler_marks = some ⟨oc18, od18, .func (PySem.W.fnOf "marks" "Ruler.marks" (defArgs s_Ruler_marks) (defBody s_Ruler_marks) (defScope s_Ruler_marks) .none kV18 dc18 pm18 an18 cd18 ct18), sl18⟩)
    (c_Ruler_marks : PySem.W.codeIn K cd18 "Ruler.marks" = true)
    (kp_Ruler_marks : PySem.W.keepIn K (.ref f_Ruler_marks) = true)
    (a_drawing : PySem.W.nsIn K mainGlobals "drawing" = some (some (.ref f_drawing)))
    (l_drawing : K.lookup f_drawing = some ⟨oc19, od19, .func (PySem.W.fnOf "drawing" "drawing" (defArgs s_drawing) (defBody s_drawing) (defScope s_drawing) .none kV19 dc19 pm19 an19 cd19 ct19), sl19⟩)
    (c_drawing : PySem.W.codeIn K cd19 "drawing" = true)
    (kp_drawing : PySem.W.keepIn K (.ref f_drawing) = true)
    (at_Bench_enter : PySem.W.findIn K (.ref C_Bench) "enter" = some (some (.ref f_Bench_enter)))
    (fn_Bench_enter : PySem.W.isFn K (.ref f_Bench_enter) = true)
    (l_Bench_enter : K.lookup f_Bench_enter = some ⟨oc20, od20, .func (PySem.W.fnOf "enter" "Bench.enter" (defArgs s_Bench_enter) (defBody s_Bench_enter) (defScope s_Bench_enter) .none kV20 dc20 pm20 an20 cd20 ct20), sl20⟩)
    (c_Bench_enter : PySem.W.codeIn K cd20 "Bench.enter" = true)
    (kp_Bench_enter : PySem.W.keepIn K (.ref f_Bench_enter) = true)
    (at_Scene_init : PySem.W.findIn K (.ref C_Scene) "__init__" = some (some (.ref f_Scene_init)))
    (fn_Scene_init : PySem.W.isFn K (.ref f_Scene_init) = true)
    (l_Scene_init : K.lookup f_Scene_init = some ⟨oc21, od21, .func (PySem.W.fnOf "__init__" "Scene.__init__" (defArgs s_Scene_init) (defBody s_Scene_init) (defScope s_Scene_init) .none kV21 dc21 pm21 an21 cd21 ct21), sl21⟩)
    (c_Scene_init : PySem.W.codeIn K cd21 "Scene.__init__" = true)
    (kp_Scene_init : PySem.W.keepIn K (.ref f_Scene_init) = true)
    (mki_Scene : PySem.W.makesIn K C_Scene = true)
    (kc_Scene : PySem.W.keepIn K (.ref C_Scene) = true)
    (at_Ruler_error : PySem.W.findIn K (.ref C_Ruler) "error" = some (some (.ref p_Ruler_error)))
    (sp_Ruler_error : PySem.W.specialIn K (.ref p_Ruler_error) "__get__" = some (some (.builtin "property.__get__")))
    (tk_Ruler_error : PySem.W.takesIn K (.ref p_Ruler_error) = some true)
    (rc_Ruler_error : PySem.W.recIn K p_Ruler_error "property" = some (.ref f_Ruler_error :: r_Ruler_error))
    (l_Ruler_error : K.lookup f_Ruler_error = some ⟨oc22, od22, .func (PySem.W.fnOf "error" "Ruler.error" (defArgs s_Ruler_error) (defBody s_Ruler_error) (defScope s_Ruler_error) .none kV22 dc22 pm22 an22 cd22 ct22), sl22⟩)
    (c_Ruler_error : PySem.W.codeIn K cd22 "Ruler.error" = true)
    (kp_Ruler_error : PySem.W.keepIn K (.ref f_Ruler_error) = true)
    (at_Rack_getitem : PySem.W.findIn K (.ref C_Rack) "__getitem__" = some (some (.ref f_Rack_getitem)))
    (fn_Rack_getitem : PySem.W.isFn K (.ref f_Rack_getitem) = true)
    (l_Rack_getitem : K.lookup f_Rack_getitem = some ⟨oc23, od23, .func (PySem.W.fnOf "__getitem__" "Rack.__getitem__" (defArgs s_Rack_getitem) (defBody s_Rack_getitem) (defScope s_Rack_getitem) .none kV23 dc23 pm23 an23 cd23 ct23), sl23⟩)
    (c_Rack_getitem : PySem.W.codeIn K cd23 "Rack.__getitem__" = true)
    (kp_Rack_getitem : PySem.W.keepIn K (.ref f_Rack_getitem) = true)
    (at_Bench_laid_on : PySem.W.findIn K (.ref C_Bench) "laid_on" = some (some (.ref f_Bench_laid_on)))
    (fn_Bench_laid_on : PySem.W.isFn K (.ref f_Bench_laid_on) = true)
    (l_Bench_laid_on : K.lookup f_Bench_laid_on = some ⟨oc24, od24, .func (PySem.W.fnOf "laid_on" "Bench.laid_on" (defArgs s_Bench_laid_on) (defBody s_Bench_laid_on) (defScope s_Bench_laid_on) .none kV24 dc24 pm24 an24 cd24 ct24), sl24⟩)
    (c_Bench_laid_on : PySem.W.codeIn K cd24 "Bench.laid_on" = true)
    (kp_Bench_laid_on : PySem.W.keepIn K (.ref f_Bench_laid_on) = true)
    (a_spread_of : PySem.W.nsIn K mainGlobals "spread_of" = some (some (.ref f_spread_of)))
    (l_spread_of : K.lookup f_spread_of = some ⟨oc25, od25, .func (PySem.W.fnOf "spread_of" "spread_of" (defArgs s_spread_of) (defBody s_spread_of) (defScope s_spread_of) .none kV25 dc25 pm25 an25 cd25 ct25), sl25⟩)
    (c_spread_of : PySem.W.codeIn K cd25 "spread_of" = true)
    (kp_spread_of : PySem.W.keepIn K (.ref f_spread_of) = true)
    (at_Ruler_spans : PySem.W.findIn K (.ref C_Ruler) "spans" = some (some (.ref p_Ruler_spans)))
    (sp_Ruler_spans : PySem.W.specialIn K (.ref p_Ruler_spans) "__get__" = some (some (.builtin "property.__get__")))
    (tk_Ruler_spans : PySem.W.takesIn K (.ref p_Ruler_spans) = some true)
    (rc_Ruler_spans : PySem.W.recIn K p_Ruler_spans "property" = some (.ref f_Ruler_spans :: r_Ruler_spans))
    (l_Ruler_spans : K.lookup f_Ruler_spans = some ⟨oc26, od26, .func (PySem.W.fnOf "spans" "Ruler.spans" (defArgs s_Ruler_spans) (defBody s_Ruler_spans) (defScope s_Ruler_spans) .none kV26 dc26 pm26 an26 cd26 ct26), sl26⟩)
    (c_Ruler_spans : PySem.W.codeIn K cd26 "Ruler.spans" = true)
    (kp_Ruler_spans : PySem.W.keepIn K (.ref f_Ruler_spans) = true)
    (at_Bench_lay : PySem.W.findIn K (.ref C_Bench) "lay" = some (some (.ref f_Bench_lay)))
    (fn_Bench_lay : PySem.W.isFn K (.ref f_Bench_lay) = true)
    (l_Bench_lay : K.lookup f_Bench_lay = some ⟨oc27, od27, .func (PySem.W.fnOf "lay" "Bench.lay" (defArgs s_Bench_lay) (defBody s_Bench_lay) (defScope s_Bench_lay) .none kV27 dc27 pm27 an27 cd27 ct27), sl27⟩)
    (c_Bench_lay : PySem.W.codeIn K cd27 "Bench.lay" = true)
    (kp_Bench_lay : PySem.W.keepIn K (.ref f_Bench_lay) = true)
    (at_Bench_scratch : PySem.W.findIn K (.ref C_Bench) "scratch" = some (some (.ref f_Bench_scratch)))
    (fn_Bench_scratch : PySem.W.isFn K (.ref f_Bench_scratch) = true)
    (l_Bench_scratch : K.lookup f_Bench_scratch = some ⟨oc28, od28, .func (PySem.W.fnOf "scratch" "Bench.scratch" (defArgs s_Bench_scratch) (defBody s_Bench_scratch) (defScope s_Bench_scratch) .none kV28 dc28 pm28 an28 cd28 ct28), sl28⟩)
    (c_Bench_scratch : PySem.W.codeIn K cd28 "Bench.scratch" = true)
    (kp_Bench_scratch : PySem.W.keepIn K (.ref f_Bench_scratch) = true)
    (a_validate_places : PySem.W.nsIn K mainGlobals "validate_places" = some (some (.ref f_validate_places)))
    (l_validate_places : K.lookup f_validate_places = some ⟨oc29, od29, .func (PySem.W.fnOf "validate_places" "validate_places" (defArgs s_validate_places) (defBody s_validate_places) (defScope s_validate_places) .none kV29 dc29 pm29 an29 cd29 ct29), sl29⟩)
    (c_validate_places : PySem.W.codeIn K cd29 "validate_places" = true)
    (kp_validate_places : PySem.W.keepIn K (.ref f_validate_places) = true)
    (at_Bench_init : PySem.W.findIn K (.ref C_Bench) "__init__" = some (some (.ref f_Bench_init)))
    (fn_Bench_init : PySem.W.isFn K (.ref f_Bench_init) = true)
    (l_Bench_init : K.lookup f_Bench_init = some ⟨oc30, od30, .func (PySem.W.fnOf "__init__" "Bench.__init__" (defArgs s_Bench_init) (defBody s_Bench_init) (defScope s_Bench_init) .none kV30 dc30 pm30 an30 cd30 ct30), sl30⟩)
    (c_Bench_init : PySem.W.codeIn K cd30 "Bench.__init__" = true)
    (kp_Bench_init : PySem.W.keepIn K (.ref f_Bench_init) = true)
    (mki_Bench : PySem.W.makesIn K C_Bench = true)
    (kc_Bench : PySem.W.keepIn K (.ref C_Bench) = true)
    (a_law : PySem.W.nsIn K mainGlobals "law" = some (some (.ref f_law)))
    (l_law : K.lookup f_law = some ⟨oc31, od31, .func (PySem.W.fnOf "law" "law" (defArgs s_law) (defBody s_law) (defScope s_law) .none kV31 dc31 pm31 an31 cd31 ct31), sl31⟩)
    (c_law : PySem.W.codeIn K cd31 "law" = true)
    (kp_law : PySem.W.keepIn K (.ref f_law) = true) :
    ∃ fd : FuncData, (∀ (s : Shared) (v : Value), BindsTo s fd ⟨[v], []⟩ [("_law_script", v)]) ∧ ∀ base : Heap, K.In base → base.Ns mainGlobals mg → FnOk l.prog w K mg base (L2.CX l.prog w) 10 fa fd ["_law_script"] (spD K (FLaw m_law)) := by
  have efa := hfa.symm.trans (PySem.W.mg_of X G a_law)
  cases efa
  have mg_LETTERS := PySem.W.mg_of X G g_LETTERS
  have mg_MAX_LETTERS := PySem.W.mg_of X G g_MAX_LETTERS
  have mg_MAX_RULERS := PySem.W.mg_of X G g_MAX_RULERS
  have mg_MAX_ERROR := PySem.W.mg_of X G g_MAX_ERROR
  have mg_MAX_LENGTH := PySem.W.mg_of X G g_MAX_LENGTH
  have mg_MAX_MARKS := PySem.W.mg_of X G g_MAX_MARKS
  have mg_MIN_MARKS := PySem.W.mg_of X G g_MIN_MARKS
  have mg_CUT := PySem.W.mg_of X G g_CUT
  have mg_FREE := PySem.W.mg_of X G g_FREE
  have mg_HERE := PySem.W.mg_of X G g_HERE
  have mg_BETWEEN := PySem.W.mg_of X G g_BETWEEN
  have mg_MARK_SIGN := PySem.W.mg_of X G g_MARK_SIGN
  have mg_MAX_DRAWN := PySem.W.mg_of X G g_MAX_DRAWN
  have mg_LAY := PySem.W.mg_of X G g_LAY
  have mg_SCRATCH := PySem.W.mg_of X G g_SCRATCH
  have mg_MAX_END := PySem.W.mg_of X G g_MAX_END
  have mg_Ruler := PySem.W.mg_of X G g_Ruler
  have cls_Ruler : SlX.SCls K C_Ruler := ⟨pg_Ruler, ic_Ruler, po_Ruler, sa_Ruler⟩
  have isi_Ruler : SlX.SIsi K C_Ruler := ⟨ca_Ruler, cn_Ruler, ct_Ruler, cm_Ruler⟩
  have slot_Ruler_own_error : SlX.Slot1 K C_Ruler "own_error" q_Ruler_own_error 0 := ⟨sa_Ruler_own_error, sg_Ruler_own_error, sk_Ruler_own_error, sy_Ruler_own_error, sx_Ruler_own_error, by decide⟩
  have slot_Ruler_own_marks : SlX.Slot1 K C_Ruler "own_marks" q_Ruler_own_marks 1 := ⟨sa_Ruler_own_marks, sg_Ruler_own_marks, sk_Ruler_own_marks, sy_Ruler_own_marks, sx_Ruler_own_marks, by decide⟩
  have cl_Ruler : Cl_Ruler K C_Ruler := ⟨cls_Ruler, isi_Ruler, ⟨_, slot_Ruler_own_error⟩, ⟨_, slot_Ruler_own_marks⟩, kit_same (by simp), nf_Ruler⟩
  have mg_Rack := PySem.W.mg_of X G g_Rack
  have cls_Rack : SlX.SCls K C_Rack := ⟨pg_Rack, ic_Rack, po_Rack, sa_Rack⟩
  have isi_Rack : SlX.SIsi K C_Rack := ⟨ca_Rack, cn_Rack, ct_Rack, cm_Rack⟩
  have slot_Rack_held : SlX.Slot1 K C_Rack "held" q_Rack_held 0 := ⟨sa_Rack_held, sg_Rack_held, sk_Rack_held, sy_Rack_held, sx_Rack_held, by decide⟩
  have cl_Rack : Cl_Rack K C_Rack := ⟨cls_Rack, isi_Rack, ⟨_, slot_Rack_held⟩, kit_same (by simp), nf_Rack⟩
  have mg_Scene := PySem.W.mg_of X G g_Scene
  have cls_Scene : SlX.SCls K C_Scene := ⟨pg_Scene, ic_Scene, po_Scene, sa_Scene⟩
  have isi_Scene : SlX.SIsi K C_Scene := ⟨ca_Scene, cn_Scene, ct_Scene, cm_Scene⟩
  have slot_Scene_cuts : SlX.Slot1 K C_Scene "cuts" q_Scene_cuts 0 := ⟨sa_Scene_cuts, sg_Scene_cuts, sk_Scene_cuts, sy_Scene_cuts, sx_Scene_cuts, by decide⟩
  have slot_Scene_errors : SlX.Slot1 K C_Scene "errors" q_Scene_errors 1 := ⟨sa_Scene_errors, sg_Scene_errors, sk_Scene_errors, sy_Scene_errors, sx_Scene_errors, by decide⟩
  have slot_Scene_laid : SlX.Slot1 K C_Scene "laid" q_Scene_laid 2 := ⟨sa_Scene_laid, sg_Scene_laid, sk_Scene_laid, sy_Scene_laid, sx_Scene_laid, by decide⟩
  have slot_Scene_spot : SlX.Slot1 K C_Scene "spot" q_Scene_spot 3 := ⟨sa_Scene_spot, sg_Scene_spot, sk_Scene_spot, sy_Scene_spot, sx_Scene_spot, by decide⟩
  have cl_Scene : Cl_Scene K C_Scene := ⟨cls_Scene, isi_Scene, ⟨_, slot_Scene_cuts⟩, ⟨_, slot_Scene_errors⟩, ⟨_, slot_Scene_laid⟩, ⟨_, slot_Scene_spot⟩, kit_same (by simp), nf_Scene⟩
  have mg_Bench := PySem.W.mg_of X G g_Bench
  have cl_Bench : Clo_Bench K C_Bench := ⟨⟨pg_Bench, hd_Bench, po_Bench, sa_Bench⟩, na_Bench_rack_used, na_Bench_last, na_Bench_scene, na_Bench_marked, na_Bench_past, na_Bench_later⟩
  have B : Bn mg := ⟨PySem.W.mg_none_of X G z_int, PySem.W.mg_none_of X G z_len, PySem.W.mg_none_of X G z_list, PySem.W.mg_none_of X G z_range, PySem.W.mg_none_of X G z_sorted, PySem.W.mg_none_of X G z_tuple, PySem.W.mg_none_of X G z_dict, PySem.W.mg_none_of X G z_isinstance, PySem.W.mg_none_of X G z_bool, PySem.W.mg_none_of X G z_str, PySem.W.mg_none_of X G z_enumerate, PySem.W.mg_none_of X G z_reversed, PySem.W.mg_none_of X G z_abs, PySem.W.mg_none_of X G z_min, PySem.W.mg_none_of X G z_max, PySem.W.mg_none_of X G z_sum, PySem.W.mg_none_of X G z_zip, PySem.W.mg_none_of X G z_set, PySem.W.mg_none_of X G z_all, PySem.W.mg_none_of X G z_divmod⟩
  have F_law_alike := fun_mk (st := s_law_alike) l_law_alike c_law_alike kp_law_alike
  have b_law_alike := F_law_alike.binds (ps := ["_law_found", "_law_due"]) fun _ _ _ _ _ _ us hl => match us, hl with | [_, _], _ => rfl
  have mg_law_alike := PySem.W.mg_of X G a_law_alike
  have F_law_mix := fun_mk (st := s_law_mix) l_law_mix c_law_mix kp_law_mix
  have b_law_mix := F_law_mix.binds (ps := ["_law_script", "_law_seed"]) fun _ _ _ _ _ _ us hl => match us, hl with | [_, _], _ => rfl
  have mg_law_mix := PySem.W.mg_of X G a_law_mix
  have F_law_next := fun_mk (st := s_law_next) l_law_next c_law_next kp_law_next
  have b_law_next := F_law_next.binds (ps := ["_law_h", "_law_limit"]) fun _ _ _ _ _ _ us hl => match us, hl with | [_, _], _ => rfl
  have mg_law_next := PySem.W.mg_of X G a_law_next
  have F_law_marks := fun_mk (st := s_law_marks) l_law_marks c_law_marks kp_law_marks
  have b_law_marks := F_law_marks.binds (ps := ["_law_h", "_law_most", "_law_wide"]) fun _ _ _ _ _ _ us hl => match us, hl with | [_, _, _], _ => rfl
  have mg_law_marks := PySem.W.mg_of X G a_law_marks
  have F_law_drawn := fun_mk (st := s_law_drawn) l_law_drawn c_law_drawn kp_law_drawn
  have b_law_drawn := F_law_drawn.binds (ps := ["_law_h", "_law_most", "_law_wide"]) fun _ _ _ _ _ _ us hl => match us, hl with | [_, _, _], _ => rfl
  have mg_law_drawn := PySem.W.mg_of X G a_law_drawn
  have F_is_name := fun_mk (st := s_is_name) l_is_name c_is_name kp_is_name
  have b_is_name := F_is_name.binds (ps := ["name"]) fun _ _ _ _ _ _ us hl => match us, hl with | [_], _ => rfl
  have mg_is_name := PySem.W.mg_of X G a_is_name
  have F_Rack_init := fun_mk (st := s_Rack_init) l_Rack_init c_Rack_init kp_Rack_init
  have b_Rack_init := F_Rack_init.binds (ps := ["self", "rulers"]) fun _ _ _ _ _ _ us hl => match us, hl with | [_, _], _ => rfl
  have F_is_number := fun_mk (st := s_is_number) l_is_number c_is_number kp_is_number
  have b_is_number := F_is_number.binds (ps := ["value", "lowest", "highest"]) fun _ _ _ _ _ _ us hl => match us, hl with | [_, _, _], _ => rfl
  have mg_is_number := PySem.W.mg_of X G a_is_number
  have F_Ruler_init := fun_mk (st := s_Ruler_init) l_Ruler_init c_Ruler_init kp_Ruler_init
  have b_Ruler_init := F_Ruler_init.binds (ps := ["self", "marks", "error"]) fun _ _ _ _ _ _ us hl => match us, hl with | [_, _, _], _ => rfl
  have F_law_rack := fun_mk (st := s_law_rack) l_law_rack c_law_rack kp_law_rack
  have b_law_rack := F_law_rack.binds (ps := ["_law_drawn_here"]) fun _ _ _ _ _ _ us hl => match us, hl with | [_], _ => rfl
  have mg_law_rack := PySem.W.mg_of X G a_law_rack
  have F_law_spans := fun_mk (st := s_law_spans) l_law_spans c_law_spans kp_law_spans
  have b_law_spans := F_law_spans.binds (ps := ["_law_marks_here"]) fun _ _ _ _ _ _ us hl => match us, hl with | [_], _ => rfl
  have mg_law_spans := PySem.W.mg_of X G a_law_spans
  have F_law_steps := fun_mk (st := s_law_steps) l_law_steps c_law_steps kp_law_steps
  have b_law_steps := F_law_steps.binds (ps := ["_law_drawn_here"]) fun _ _ _ _ _ _ us hl => match us, hl with | [_], _ => rfl
  have mg_law_steps := PySem.W.mg_of X G a_law_steps
  have F_law_row := fun_mk (st := s_law_row) l_law_row c_law_row kp_law_row
  have b_law_row := F_law_row.binds (ps := ["_law_h", "_law_drawn_here", "_law_most"]) fun _ _ _ _ _ _ us hl => match us, hl with | [_, _, _], _ => rfl
  have mg_law_row := PySem.W.mg_of X G a_law_row
  have F_Bench_place := fun_mk (st := s_Bench_place) l_Bench_place c_Bench_place kp_Bench_place
  have b_Bench_place := F_Bench_place.binds (ps := ["self"]) fun _ _ _ _ _ _ us hl => match us, hl with | [_], _ => rfl
  have F_Bench_scratches := fun_mk (st := s_Bench_scratches) l_Bench_scratches c_Bench_scratches kp_Bench_scratches
  have b_Bench_scratches := F_Bench_scratches.binds (ps := ["self"]) fun _ _ _ _ _ _ us hl => match us, hl with | [_], _ => rfl
  have F_bench_line := fun_mk (st := s_bench_line) l_bench_line c_bench_line kp_bench_line
  have b_bench_line := F_bench_line.binds (ps := ["bench"]) fun _ _ _ _ _ _ us hl => match us, hl with | [_], _ => rfl
  have mg_bench_line := PySem.W.mg_of X G a_bench_line
  have F_Ruler_length := fun_mk (st := s_Ruler_length) l_Ruler_length c_Ruler_length kp_Ruler_length
  have b_Ruler_length := F_Ruler_length.binds (ps := ["self"]) fun _ _ _ _ _ _ us hl => match us, hl with | [_], _ => rfl
  have F_Ruler_marks := fun_mk (st := s_Ruler_marks) l_Ruler_marks c_Ruler_marks kp_Ruler_marks
  have b_Ruler_marks := F_Ruler_marks.binds (ps := ["self"]) fun _ _ _ _ _ _ us hl => match us, hl with | [_], _ => rfl
  have F_drawing := fun_mk (st := s_drawing) l_drawing c_drawing kp_drawing
  have b_drawing := F_drawing.binds (ps := ["ruler"]) fun _ _ _ _ _ _ us hl => match us, hl with | [_], _ => rfl
  have mg_drawing := PySem.W.mg_of X G a_drawing
  have F_Bench_enter := fun_mk (st := s_Bench_enter) l_Bench_enter c_Bench_enter kp_Bench_enter
  have b_Bench_enter := F_Bench_enter.binds (ps := ["self", "operation", "scene", "marked"]) fun _ _ _ _ _ _ us hl => match us, hl with | [_, _, _, _], _ => rfl
  have F_Scene_init := fun_mk (st := s_Scene_init) l_Scene_init c_Scene_init kp_Scene_init
  have b_Scene_init := F_Scene_init.binds (ps := ["self", "spot", "laid", "errors", "cuts"]) fun _ _ _ _ _ _ us hl => match us, hl with | [_, _, _, _, _], _ => rfl
  have F_Ruler_error := fun_mk (st := s_Ruler_error) l_Ruler_error c_Ruler_error kp_Ruler_error
  have b_Ruler_error := F_Ruler_error.binds (ps := ["self"]) fun _ _ _ _ _ _ us hl => match us, hl with | [_], _ => rfl
  have F_Rack_getitem := fun_mk (st := s_Rack_getitem) l_Rack_getitem c_Rack_getitem kp_Rack_getitem
  have b_Rack_getitem := F_Rack_getitem.binds (ps := ["self", "name"]) fun _ _ _ _ _ _ us hl => match us, hl with | [_, _], _ => rfl
  have F_Bench_laid_on := fun_mk (st := s_Bench_laid_on) l_Bench_laid_on c_Bench_laid_on kp_Bench_laid_on
  have b_Bench_laid_on := F_Bench_laid_on.binds (ps := ["self", "row"]) fun _ _ _ _ _ _ us hl => match us, hl with | [_, _], _ => rfl
  have F_spread_of := fun_mk (st := s_spread_of) l_spread_of c_spread_of kp_spread_of
  have b_spread_of := F_spread_of.binds (ps := ["marks"]) fun _ _ _ _ _ _ us hl => match us, hl with | [_], _ => rfl
  have mg_spread_of := PySem.W.mg_of X G a_spread_of
  have F_Ruler_spans := fun_mk (st := s_Ruler_spans) l_Ruler_spans c_Ruler_spans kp_Ruler_spans
  have b_Ruler_spans := F_Ruler_spans.binds (ps := ["self"]) fun _ _ _ _ _ _ us hl => match us, hl with | [_], _ => rfl
  have F_Bench_lay := fun_mk (st := s_Bench_lay) l_Bench_lay c_Bench_lay kp_Bench_lay
  have b_Bench_lay := F_Bench_lay.binds (ps := ["self", "name", "step"]) fun _ _ _ _ _ _ us hl => match us, hl with | [_, _, _], _ => rfl
  have F_Bench_scratch := fun_mk (st := s_Bench_scratch) l_Bench_scratch c_Bench_scratch kp_Bench_scratch
  have b_Bench_scratch := F_Bench_scratch.binds (ps := ["self"]) fun _ _ _ _ _ _ us hl => match us, hl with | [_], _ => rfl
  have F_validate_places := fun_mk (st := s_validate_places) l_validate_places c_validate_places kp_validate_places
  have b_validate_places := F_validate_places.binds (ps := ["end", "places"]) fun _ _ _ _ _ _ us hl => match us, hl with | [_, _], _ => rfl
  have mg_validate_places := PySem.W.mg_of X G a_validate_places
  have F_Bench_init := fun_mk (st := s_Bench_init) l_Bench_init c_Bench_init kp_Bench_init
  have b_Bench_init := F_Bench_init.binds (ps := ["self", "rack", "end"]) fun _ _ _ _ _ _ us hl => match us, hl with | [_, _, _], _ => rfl
  have F_law := fun_mk (st := s_law) l_law c_law kp_law
  have b_law := F_law.binds (ps := ["_law_script"]) fun _ _ _ _ _ _ us hl => match us, hl with | [_], _ => rfl
  refine ⟨PySem.W.fnOf "law" "law" (defArgs s_law) (defBody s_law) (defScope s_law) .none kV31 dc31 pm31 an31 cd31 ct31, fun s v => .of_eq rfl, fun base _ _ => ?_⟩
  have c_law_alike_0 : Cal l.prog w K mg base "_law_alike" 3 ["_law_found", "_law_due"] (alikeF 0) := ⟨f_law_alike, _, ok_law_alike (n := 0) (k := 2) F_law_alike B (fun h => absurd h (by decide)), mg_law_alike, kp_law_alike, b_law_alike⟩
  have c_law_mix : Cal l.prog w K mg base "_law_mix" 3 ["_law_script", "_law_seed"] (FMix m_law_mix) := ⟨f_law_mix, _, ok_law_mix F_law_mix B, mg_law_mix, kp_law_mix, b_law_mix⟩
  have c_law_next : Cal l.prog w K mg base "_law_next" 3 ["_law_h", "_law_limit"] (FBh (A := Int) (R := Int) (fun a => [eI a]) (fun v => .sh (eI v)) (fun a => m_law_next a)) := ⟨f_law_next, _, ok_law_next F_law_next B, mg_law_next, kp_law_next, b_law_next⟩
  have c_law_marks : Cal l.prog w K mg base "_law_marks" 5 ["_law_h", "_law_most", "_law_wide"] (FBh (A := Int × Int) (R := List Int) (fun a => [eI a.1, eI a.2]) (fun v => .sh ((eT eI) v)) (fun a => m_law_marks a.1 a.2)) := ⟨f_law_marks, _, ok_law_marks F_law_marks B c_law_next, mg_law_marks, kp_law_marks, b_law_marks⟩
  have c_law_drawn : Cal l.prog w K mg base "_law_drawn" 7 ["_law_h", "_law_most", "_law_wide"] (FBh (A := Int × Int) (R := List (S × (List Int × Int))) (fun a => [eI a.1, eI a.2]) (fun v => .fr ((eD kZ (eP (eT eI) eI)) v)) (fun a => m_law_drawn a.1 a.2)) := ⟨f_law_drawn, _, ok_law_drawn F_law_drawn B c_law_marks c_law_next, mg_law_drawn, kp_law_drawn, b_law_drawn⟩
  have c_is_name : Cal l.prog w K mg base "is_name" 3 ["name"] (FM cx (A := S) (R := Bool) (fun a => [eZ a]) (fun v => .sh (eB v)) (fun a => m_is_name a)) := ⟨f_is_name, _, ok_is_name F_is_name B mg_LETTERS mg_MAX_LETTERS, mg_is_name, kp_is_name, b_is_name⟩
  have k_Rack : MakeD l.prog w K mg base "Rack" C_Rack 5 ["self", "rulers"] (FMI cx (A := List (S × Rul)) (R := Rak) (fun a => [(eD kZ (eRul C_Ruler)) a]) (fun r => [eD kZ (eRul C_Ruler) r.held]) (fun a => mk_Rack a)) := ⟨f_Rack_init, _, ⟨mki_Rack, at_Rack_init, fn_Rack_init, kc_Rack⟩, mg_Rack, ok_Rack_init F_Rack_init B c_is_name cl_Rack mg_MAX_RULERS, b_Rack_init⟩
  have c_is_number : Cal l.prog w K mg base "is_number" 3 ["value", "lowest", "highest"] (FM cx (A := Int × Int × Int) (R := Bool) (fun a => [eI a.1, eI a.2.1, eI a.2.2]) (fun v => .sh (eB v)) (fun a => .ok (m_is_number a.1 a.2.1 a.2.2))) := ⟨f_is_number, _, ok_is_number F_is_number B, mg_is_number, kp_is_number, b_is_number⟩
  have k_Ruler : MakeD l.prog w K mg base "Ruler" C_Ruler 5 ["self", "marks", "error"] (FMI cx (A := (List Int) × Int) (R := Rul) (fun a => [(eT eI) a.1, eI a.2]) (fun r => [.int r.error, .tup (r.marks.map D.int)]) (fun a => mk_Ruler a.1 a.2)) := ⟨f_Ruler_init, _, ⟨mki_Ruler, at_Ruler_init, fn_Ruler_init, kc_Ruler⟩, mg_Ruler, ok_Ruler_init F_Ruler_init B c_is_number cl_Ruler mg_MAX_ERROR mg_MAX_LENGTH mg_MAX_MARKS mg_MIN_MARKS, b_Ruler_init⟩
  have c_law_rack : Cal l.prog w K mg base "_law_rack" 8 ["_law_drawn_here"] (FM cx (A := List (S × (List Int × Int))) (R := Rak) (fun a => [(eD kZ (eP (eT eI) eI)) a]) (fun v => .sh ((eRak C_Rack C_Ruler) v)) (fun a => m_law_rack a)) := ⟨f_law_rack, _, ok_law_rack F_law_rack B k_Rack k_Ruler, mg_law_rack, kp_law_rack, b_law_rack⟩
  have c_law_spans : Cal l.prog w K mg base "_law_spans" 3 ["_law_marks_here"] (FM cx (A := List Int) (R := List Int) (fun a => [(eT eI) a]) (fun v => .fr ((eL eI) v)) (fun a => m_law_spans a)) := ⟨f_law_spans, _, ok_law_spans F_law_spans B, mg_law_spans, kp_law_spans, b_law_spans⟩
  have c_law_steps : Cal l.prog w K mg base "_law_steps" 5 ["_law_drawn_here"] (FM cx (A := List (S × (List Int × Int))) (R := List ((S × Int))) (fun a => [(eD kZ (eP (eT eI) eI)) a]) (fun v => .fr ((eL (eP eZ eI)) v)) (fun a => m_law_steps a)) := ⟨f_law_steps, _, ok_law_steps F_law_steps B c_law_spans, mg_law_steps, kp_law_steps, b_law_steps⟩
  have c_law_row : Cal l.prog w K mg base "_law_row" 7 ["_law_h", "_law_drawn_here", "_law_most"] (FBh (A := (List (S × (List Int × Int))) × Int) (R := List ((S × Int))) (fun a => [(eD kZ (eP (eT eI) eI)) a.1, eI a.2]) (fun v => .fr ((eL (eP eZ eI)) v)) (fun a => m_law_row a.1 a.2)) := ⟨f_law_row, _, ok_law_row F_law_row B c_law_next c_law_steps, mg_law_row, kp_law_row, b_law_row⟩
  have p_Bench_place : PropD l.prog w K mg base C_Bench "place" 3 (FCO cx C_Bench ns_Bench (σT := S_Bench) (A := Unit) (R := Int) (fl_Bench C_Ruler C_Rack C_Scene) (fun _ => []) (fun v => .sh (eI v)) (fun s _ => .ok (m_Bench_place s))) := ⟨p_Bench_place, f_Bench_place, _, at_Bench_place, sp_Bench_place, tk_Bench_place, ⟨_, rc_Bench_place⟩, ok_Bench_place F_Bench_place B cl_Scene cl_Bench, b_Bench_place⟩
  have p_Bench_scratches : PropD l.prog w K mg base C_Bench "scratches" 3 (FCO cx C_Bench ns_Bench (σT := S_Bench) (A := Unit) (R := List Int) (fl_Bench C_Ruler C_Rack C_Scene) (fun _ => []) (fun v => .sh ((eT eI) v)) (fun s _ => .ok (m_Bench_scratches s))) := ⟨p_Bench_scratches, f_Bench_scratches, _, at_Bench_scratches, sp_Bench_scratches, tk_Bench_scratches, ⟨_, rc_Bench_scratches⟩, ok_Bench_scratches F_Bench_scratches B cl_Scene cl_Bench, b_Bench_scratches⟩
  have c_bench_line : Cal l.prog w K mg base "bench_line" 6 ["bench"] (FCOa cx C_Bench ns_Bench (σT := S_Bench) (A := Unit) (R := S) (fl_Bench C_Ruler C_Rack C_Scene) (fun o _ => [D.adr o]) (fun v => .sh (eZ v)) (fun s _ => m_bench_line s)) := ⟨f_bench_line, _, ok_bench_line F_bench_line B mg_CUT mg_FREE mg_HERE cl_Bench p_Bench_place p_Bench_scratches, mg_bench_line, kp_bench_line, b_bench_line⟩
  have p_Ruler_length : PropD l.prog w K mg base C_Ruler "length" 3 (FM cx (A := Rul) (R := Int) (fun a => [(eRul C_Ruler) a]) (fun v => .sh (eI v)) (fun a => m_Ruler_length a)) := ⟨p_Ruler_length, f_Ruler_length, _, at_Ruler_length, sp_Ruler_length, tk_Ruler_length, ⟨_, rc_Ruler_length⟩, ok_Ruler_length F_Ruler_length B cl_Ruler, b_Ruler_length⟩
  have p_Ruler_marks : PropD l.prog w K mg base C_Ruler "marks" 3 (FM cx (A := Rul) (R := List Int) (fun a => [(eRul C_Ruler) a]) (fun v => .sh ((eT eI) v)) (fun a => .ok (m_Ruler_marks a))) := ⟨p_Ruler_marks, f_Ruler_marks, _, at_Ruler_marks, sp_Ruler_marks, tk_Ruler_marks, ⟨_, rc_Ruler_marks⟩, ok_Ruler_marks F_Ruler_marks B cl_Ruler, b_Ruler_marks⟩
  have c_drawing : Cal l.prog w K mg base "drawing" 6 ["ruler"] (FM cx (A := Rul) (R := S) (fun a => [(eRul C_Ruler) a]) (fun v => .sh (eZ v)) (fun a => m_drawing a)) := ⟨f_drawing, _, ok_drawing F_drawing B cl_Ruler mg_BETWEEN mg_MARK_SIGN mg_MAX_DRAWN p_Ruler_length p_Ruler_marks, mg_drawing, kp_drawing, b_drawing⟩
  have d_Bench_enter : MethD l.prog w K mg base C_Bench "enter" 3 ["self", "operation", "scene", "marked"] (FMO cx C_Bench ns_Bench (σT := S_Bench) (A := (List At) × Scn × (List (S × Scn))) (R := Unit) (fl_Bench C_Ruler C_Rack C_Scene) (fun a => [(eT eAt) a.1, (eScn C_Scene) a.2.1, (eD kZ (eScn C_Scene)) a.2.2]) (fun v => .sh (eU v)) (fun s a => m_Bench_enter s a.1 a.2.1 a.2.2)) := ⟨f_Bench_enter, _, ⟨at_Bench_enter, fn_Bench_enter, kp_Bench_enter⟩, ok_Bench_enter F_Bench_enter B cl_Bench, b_Bench_enter⟩
  have k_Scene : MakeD l.prog w K mg base "Scene" C_Scene 3 ["self", "spot", "laid", "errors", "cuts"] (FMI cx (A := Int × Int × Int × (List Int)) (R := Scn) (fun a => [eI a.1, eI a.2.1, eI a.2.2.1, (eT eI) a.2.2.2]) (fun r => [.tup (r.cuts.map D.int), .int r.errors, .int r.laid, .int r.spot]) (fun a => mk_Scene a.1 a.2.1 a.2.2.1 a.2.2.2)) := ⟨f_Scene_init, _, ⟨mki_Scene, at_Scene_init, fn_Scene_init, kc_Scene⟩, mg_Scene, ok_Scene_init F_Scene_init B cl_Scene, b_Scene_init⟩
  have p_Ruler_error : PropD l.prog w K mg base C_Ruler "error" 3 (FM cx (A := Rul) (R := Int) (fun a => [(eRul C_Ruler) a]) (fun v => .sh (eI v)) (fun a => .ok (m_Ruler_error a))) := ⟨p_Ruler_error, f_Ruler_error, _, at_Ruler_error, sp_Ruler_error, tk_Ruler_error, ⟨_, rc_Ruler_error⟩, ok_Ruler_error F_Ruler_error B cl_Ruler, b_Ruler_error⟩
  have x_Rack_getitem : ItemD l.prog w K mg base C_Rack 3 ["self", "name"] (FM cx (A := Rak × S) (R := Rul) (fun a => [(eRak C_Rack C_Ruler) a.1, eZ a.2]) (fun v => .sh ((eRul C_Ruler) v)) (fun a => m_Rack___getitem a.1 a.2)) := ⟨f_Rack_getitem, _, at_Rack_getitem, fn_Rack_getitem, (by unfold PySem.W.fnIn; rw [l_Rack_getitem]), ok_Rack_getitem F_Rack_getitem B cl_Rack, b_Rack_getitem⟩
  have d_Bench_laid_on : MethD l.prog w K mg base C_Bench "laid_on" 6 ["self", "row"] (FCO cx C_Bench ns_Bench (σT := S_Bench) (A := List ((S × Int))) (R := Scn) (fl_Bench C_Ruler C_Rack C_Scene) (fun a => [(eL (eP eZ eI)) a]) (fun v => .sh ((eScn C_Scene) v)) (fun s a => m_Bench_laid_on s a)) := ⟨f_Bench_laid_on, _, ⟨at_Bench_laid_on, fn_Bench_laid_on, kp_Bench_laid_on⟩, ok_Bench_laid_on F_Bench_laid_on B cl_Rack cl_Ruler cl_Scene k_Scene cl_Bench p_Ruler_error x_Rack_getitem, b_Bench_laid_on⟩
  have c_spread_of : Cal l.prog w K mg base "spread_of" 3 ["marks"] (FM cx (A := List Int) (R := List Int) (fun a => [(eT eI) a]) (fun v => .fr ((eL eI) v)) (fun a => m_spread_of a)) := ⟨f_spread_of, _, ok_spread_of F_spread_of B, mg_spread_of, kp_spread_of, b_spread_of⟩
  have p_Ruler_spans : PropD l.prog w K mg base C_Ruler "spans" 5 (FM cx (A := Rul) (R := List Int) (fun a => [(eRul C_Ruler) a]) (fun v => .sh ((eT eI) v)) (fun a => m_Ruler_spans a)) := ⟨p_Ruler_spans, f_Ruler_spans, _, at_Ruler_spans, sp_Ruler_spans, tk_Ruler_spans, ⟨_, rc_Ruler_spans⟩, ok_Ruler_spans F_Ruler_spans B c_spread_of cl_Ruler, b_Ruler_spans⟩
  have d_Bench_lay : MethD l.prog w K mg base C_Bench "lay" 8 ["self", "name", "step"] (FMO cx C_Bench ns_Bench (σT := S_Bench) (A := S × Int) (R := Int) (fl_Bench C_Ruler C_Rack C_Scene) (fun a => [eZ a.1, eI a.2]) (fun v => .sh (eI v)) (fun s a => m_Bench_lay s a.1 a.2)) := ⟨f_Bench_lay, _, ⟨at_Bench_lay, fn_Bench_lay, kp_Bench_lay⟩, ok_Bench_lay F_Bench_lay B c_is_number cl_Rack cl_Ruler cl_Scene mg_LAY cl_Bench d_Bench_enter d_Bench_laid_on p_Ruler_length p_Ruler_spans x_Rack_getitem, b_Bench_lay⟩
  have d_Bench_scratch : MethD l.prog w K mg base C_Bench "scratch" 6 ["self"] (FMO cx C_Bench ns_Bench (σT := S_Bench) (A := Unit) (R := Bool) (fl_Bench C_Ruler C_Rack C_Scene) (fun _ => []) (fun v => .sh (eB v)) (fun s _ => m_Bench_scratch s)) := ⟨f_Bench_scratch, _, ⟨at_Bench_scratch, fn_Bench_scratch, kp_Bench_scratch⟩, ok_Bench_scratch F_Bench_scratch B cl_Scene k_Scene mg_SCRATCH cl_Bench d_Bench_enter, b_Bench_scratch⟩
  have c_validate_places : Cal l.prog w K mg base "validate_places" 5 ["end", "places"] (FM cx (A := Int × (List Int)) (R := Unit) (fun a => [eI a.1, (eL eI) a.2]) (fun v => .sh (eU v)) (fun a => m_validate_places a.1 a.2)) := ⟨f_validate_places, _, ok_validate_places F_validate_places B c_is_number mg_MAX_END, mg_validate_places, kp_validate_places, b_validate_places⟩
  have k_Bench : MakeO l.prog w K mg base "Bench" C_Bench 7 ["self", "rack", "end"] (FIO cx C_Bench ns_Bench (σT := S_Bench) (A := Rak × Int) (fl_Bench C_Ruler C_Rack C_Scene) (fun a => [(eRak C_Rack C_Ruler) a.1, eI a.2]) (fun a => mk_Bench a.1 a.2)) := ⟨f_Bench_init, _, ⟨mki_Bench, at_Bench_init, fn_Bench_init, kc_Bench⟩, mg_Bench, ok_Bench_init F_Bench_init B c_validate_places k_Scene cl_Bench, b_Bench_init⟩
  exact ok_law F_law B c_law_alike_0 c_law_mix c_law_drawn c_law_marks c_law_next c_law_rack c_law_row c_bench_line c_drawing k_Ruler cl_Bench d_Bench_lay d_Bench_scratch k_Bench
theorem walk {l : PySem.W.OpenLaw} {q : Program} {loose : List Str} {XP : (Str → Option Value) → Heap → Prop} {YP : World → Heap → Prop} {d : DefRec} {K : Params → PySem.W.Frag} (hn : l.most = some 63) (hdf : d.params.defaults = [])
    (hY : ∀ (w : World) (h : Heap), YP w h → (K w.params).In h)
    (F : ∀ (w : World) (mg : Str → Option Value) (fa : Addr) (h : Heap), (K w.params).In h → h.Ns mainGlobals mg → mg d.name = some (.ref fa) →
      ∃ fd : FuncData, (∀ (s : Shared) (u : Value), BindsTo s fd ⟨[u], []⟩ [("_law_script", u)]) ∧ ∀ base : Heap, (K w.params).In base → base.Ns mainGlobals mg → FnOk l.prog w (K w.params) mg base (L2.CX l.prog w) 10 fa fd ["_law_script"] (spD (K w.params) (FLaw m_law))) :
    PySem.W.WalkO q loose XP YP l.row.toRowW d [] (fun f vs => PySem.call f vs) :=
  L2.walk_of (n := 63) (k := 10) (x := "_law_script") (CX := fun w => L2.CX l.prog w) (sp := fun w => spD (K w.params) (FLaw m_law)) hn (by decide) hdf ⟨rfl, by decide, by decide⟩ hY F (fun _ H a ns hl _ hS => law_sp hl hS) fun _ _ _ _ _ h => by
    obtain ⟨_, _, _, _, _, _, _, _, _, _, _, _, z⟩ := h
    exact z
end
end RB
open PySem PySem.W PyProof.Rows
set_option maxRecDepth 100000 in
set_option maxHeartbeats 0 in
theorem PySem.Challenge.cw_rulerbits_k45_whole_drawings_holds : PySem.Challenge.rw_rulerbits_k45_whole_drawings.Holds := by
  w_on; o_law; k_head; (case hw => w_witness2)
  k_fill
  refine RB.walk (l := PySem.Challenge.rw_rulerbits_k45_whole_drawings) rfl rfl (fun w h Y => PySem.W.kIn_of Y) ?F
  case F =>
    intro w mg fa h KX G hmg
    refine' RB.all_mk (fun _ => 0) KX G hmg ?z_int ?z_len ?z_list ?z_range ?z_sorted ?z_tuple ?z_dict ?z_isinstance ?z_bool ?z_str ?z_enumerate ?z_reversed ?z_abs ?z_min ?z_max ?z_sum ?z_zip ?z_set ?z_all ?z_divmod ?g_LETTERS ?g_MAX_LETTERS ?g_MAX_RULERS ?g_MAX_ERROR ?g_MAX_LENGTH ?g_MAX_MARKS ?g_MIN_MARKS ?g_CUT ?g_FREE ?g_HERE ?g_BETWEEN ?g_MARK_SIGN ?g_MAX_DRAWN ?g_LAY ?g_SCRATCH ?g_MAX_END ?g_Ruler ?pg_Ruler ?ic_Ruler ?po_Ruler ?sa_Ruler ?ca_Ruler ?cn_Ruler ?ct_Ruler ?cm_Ruler ?sa_Ruler_own_error ?sg_Ruler_own_error ?sk_Ruler_own_error ?sy_Ruler_own_error ?sx_Ruler_own_error ?sa_Ruler_own_marks ?sg_Ruler_own_marks ?sk_Ruler_own_marks ?sy_Ruler_own_marks ?sx_Ruler_own_marks ?nf_Ruler ?g_Rack ?pg_Rack ?ic_Rack ?po_Rack ?sa_Rack ?ca_Rack ?cn_Rack ?ct_Rack ?cm_Rack ?sa_Rack_held ?sg_Rack_held ?sk_Rack_held ?sy_Rack_held ?sx_Rack_held ?nf_Rack ?g_Scene ?pg_Scene ?ic_Scene ?po_Scene ?sa_Scene ?ca_Scene ?cn_Scene ?ct_Scene ?cm_Scene ?sa_Scene_cuts ?sg_Scene_cuts ?sk_Scene_cuts ?sy_Scene_cuts ?sx_Scene_cuts ?sa_Scene_errors ?sg_Scene_errors ?sk_Scene_errors ?sy_Scene_errors ?sx_Scene_errors ?sa_Scene_laid ?sg_Scene_laid ?sk_Scene_laid ?sy_Scene_laid ?sx_Scene_laid ?sa_Scene_spot ?sg_Scene_spot ?sk_Scene_spot ?sy_Scene_spot ?sx_Scene_spot ?nf_Scene ?g_Bench ?pg_Bench ?hd_Bench ?po_Bench ?sa_Bench ?na_Bench_rack_used ?na_Bench_last ?na_Bench_scene ?na_Bench_marked ?na_Bench_past ?na_Bench_later ?a_law_alike ?l_law_alike ?c_law_alike ?kp_law_alike ?a_law_mix ?l_law_mix ?c_law_mix ?kp_law_mix ?a_law_next ?l_law_next ?c_law_next ?kp_law_next ?a_law_marks ?l_law_marks ?c_law_marks ?kp_law_marks ?a_law_drawn ?l_law_drawn ?c_law_drawn ?kp_law_drawn ?a_is_name ?l_is_name ?c_is_name ?kp_is_name ?at_Rack_init ?fn_Rack_init ?l_Rack_init ?c_Rack_init ?kp_Rack_init ?mki_Rack ?kc_Rack ?a_is_number ?l_is_number ?c_is_number ?kp_is_number ?at_Ruler_init ?fn_Ruler_init ?l_Ruler_init ?c_Ruler_init ?kp_Ruler_init ?mki_Ruler ?kc_Ruler ?a_law_rack ?l_law_rack ?c_law_rack ?kp_law_rack ?a_law_spans ?l_law_spans ?c_law_spans ?kp_law_spans ?a_law_steps ?l_law_steps ?c_law_steps ?kp_law_steps ?a_law_row ?l_law_row ?c_law_row ?kp_law_row ?at_Bench_place ?sp_Bench_place ?tk_Bench_place ?rc_Bench_place ?l_Bench_place ?c_Bench_place ?kp_Bench_place ?at_Bench_scratches ?sp_Bench_scratches ?tk_Bench_scratches ?rc_Bench_scratches ?l_Bench_scratches ?c_Bench_scratches ?kp_Bench_scratches ?a_bench_line ?l_bench_line ?c_bench_line ?kp_bench_line ?at_Ruler_length ?sp_Ruler_length ?tk_Ruler_length ?rc_Ruler_length ?l_Ruler_length ?c_Ruler_length ?kp_Ruler_length ?at_Ruler_marks ?sp_Ruler_marks ?tk_Ruler_marks ?rc_Ruler_marks ?l_Ruler_marks ?c_Ruler_marks ?kp_Ruler_marks ?a_drawing ?l_drawing ?c_drawing ?kp_drawing ?at_Bench_enter ?fn_Bench_enter ?l_Bench_enter ?c_Bench_enter ?kp_Bench_enter ?at_Scene_init ?fn_Scene_init ?l_Scene_init ?c_Scene_init ?kp_Scene_init ?mki_Scene ?kc_Scene ?at_Ruler_error ?sp_Ruler_error ?tk_Ruler_error ?rc_Ruler_error ?l_Ruler_error ?c_Ruler_error ?kp_Ruler_error ?at_Rack_getitem ?fn_Rack_getitem ?l_Rack_getitem ?c_Rack_getitem ?kp_Rack_getitem ?at_Bench_laid_on ?fn_Bench_laid_on ?l_Bench_laid_on ?c_Bench_laid_on ?kp_Bench_laid_on ?a_spread_of ?l_spread_of ?c_spread_of ?kp_spread_of ?at_Ruler_spans ?sp_Ruler_spans ?tk_Ruler_spans ?rc_Ruler_spans ?l_Ruler_spans ?c_Ruler_spans ?kp_Ruler_spans ?at_Bench_lay ?fn_Bench_lay ?l_Bench_lay ?c_Bench_lay ?kp_Bench_lay ?at_Bench_scratch ?fn_Bench_scratch ?l_Bench_scratch ?c_Bench_scratch ?kp_Bench_scratch ?a_validate_places ?l_validate_places ?c_validate_places ?kp_validate_places ?at_Bench_init ?fn_Bench_init ?l_Bench_init ?c_Bench_init ?kp_Bench_init ?mki_Bench ?kc_Bench ?a_law ?l_law ?c_law ?kp_law
    (case z_int => k_is)
    (case z_len => k_is)
    (case z_list => k_is)
    (case z_range => k_is)
    (case z_sorted => k_is)
    (case z_tuple => k_is)
    (case z_dict => k_is)
    (case z_isinstance => k_is)
    (case z_bool => k_is)
    (case z_str => k_is)
    (case z_enumerate => k_is)
    (case z_reversed => k_is)
    (case z_abs => k_is)
    (case z_min => k_is)
    (case z_max => k_is)
    (case z_sum => k_is)
    (case z_zip => k_is)
    (case z_set => k_is)
    (case z_all => k_is)
    (case z_divmod => k_is)
    (case g_LETTERS => k_is)
    (case g_MAX_LETTERS => k_is)
    (case g_MAX_RULERS => k_is)
    (case g_MAX_ERROR => k_is)
    (case g_MAX_LENGTH => k_is)
    (case g_MAX_MARKS => k_is)
    (case g_MIN_MARKS => k_is)
    (case g_CUT => k_is)
    (case g_FREE => k_is)
    (case g_HERE => k_is)
    (case g_BETWEEN => k_is)
    (case g_MARK_SIGN => k_is)
    (case g_MAX_DRAWN => k_is)
    (case g_LAY => k_is)
    (case g_SCRATCH => k_is)
    (case g_MAX_END => k_is)
    (case g_Ruler => k_is)
    (case pg_Ruler => k_is)
    (case ic_Ruler => k_is)
    (case po_Ruler => k_is)
    (case sa_Ruler => k_is)
    (case ca_Ruler => k_is)
    (case cn_Ruler => k_is)
    (case ct_Ruler => k_is)
    (case cm_Ruler => k_is)
    (case sa_Ruler_own_error => k_is)
    (case sg_Ruler_own_error => k_is)
    (case sk_Ruler_own_error => k_is)
    (case sy_Ruler_own_error => k_is)
    (case sx_Ruler_own_error => k_is)
    (case sa_Ruler_own_marks => k_is)
    (case sg_Ruler_own_marks => k_is)
    (case sk_Ruler_own_marks => k_is)
    (case sy_Ruler_own_marks => k_is)
    (case sx_Ruler_own_marks => k_is)
    (case nf_Ruler => k_is)
    (case g_Rack => k_is)
    (case pg_Rack => k_is)
    (case ic_Rack => k_is)
    (case po_Rack => k_is)
    (case sa_Rack => k_is)
    (case ca_Rack => k_is)
    (case cn_Rack => k_is)
    (case ct_Rack => k_is)
    (case cm_Rack => k_is)
    (case sa_Rack_held => k_is)
    (case sg_Rack_held => k_is)
    (case sk_Rack_held => k_is)
    (case sy_Rack_held => k_is)
    (case sx_Rack_held => k_is)
    (case nf_Rack => k_is)
    (case g_Scene => k_is)
    (case pg_Scene => k_is)
    (case ic_Scene => k_is)
    (case po_Scene => k_is)
    (case sa_Scene => k_is)
    (case ca_Scene => k_is)
    (case cn_Scene => k_is)
    (case ct_Scene => k_is)
    (case cm_Scene => k_is)
    (case sa_Scene_cuts => k_is)
    (case sg_Scene_cuts => k_is)
    (case sk_Scene_cuts => k_is)
    (case sy_Scene_cuts => k_is)
    (case sx_Scene_cuts => k_is)
    (case sa_Scene_errors => k_is)
    (case sg_Scene_errors => k_is)
    (case sk_Scene_errors => k_is)
    (case sy_Scene_errors => k_is)
    (case sx_Scene_errors => k_is)
    (case sa_Scene_laid => k_is)
    (case sg_Scene_laid => k_is)
    (case sk_Scene_laid => k_is)
    (case sy_Scene_laid => k_is)
    (case sx_Scene_laid => k_is)
    (case sa_Scene_spot => k_is)
    (case sg_Scene_spot => k_is)
    (case sk_Scene_spot => k_is)
    (case sy_Scene_spot => k_is)
    (case sx_Scene_spot => k_is)
    (case nf_Scene => k_is)
    (case g_Bench => k_is)
    (case pg_Bench => k_is)
    (case hd_Bench => k_is)
    (case po_Bench => k_is)
    (case sa_Bench => k_is)
    (case na_Bench_rack_used => k_is)
    (case na_Bench_last => k_is)
    (case na_Bench_scene => k_is)
    (case na_Bench_marked => k_is)
    (case na_Bench_past => k_is)
    (case na_Bench_later => k_is)
    (case a_law_alike => k_is)
    (case l_law_alike => k_is)
    (case c_law_alike => k_is)
    (case kp_law_alike => k_is)
    (case a_law_mix => k_is)
    (case l_law_mix => k_is)
    (case c_law_mix => k_is)
    (case kp_law_mix => k_is)
    (case a_law_next => k_is)
    (case l_law_next => k_is)
    (case c_law_next => k_is)
    (case kp_law_next => k_is)
    (case a_law_marks => k_is)
    (case l_law_marks => k_is)
    (case c_law_marks => k_is)
    (case kp_law_marks => k_is)
    (case a_law_drawn => k_is)
    (case l_law_drawn => k_is)
    (case c_law_drawn => k_is)
    (case kp_law_drawn => k_is)
    (case a_is_name => k_is)
    (case l_is_name => k_is)
    (case c_is_name => k_is)
    (case kp_is_name => k_is)
    (case at_Rack_init => k_is)
    (case fn_Rack_init => k_is)
    (case l_Rack_init => k_is)
    (case c_Rack_init => k_is)
    (case kp_Rack_init => k_is)
    (case mki_Rack => k_is)
    (case kc_Rack => k_is)
    (case a_is_number => k_is)
    (case l_is_number => k_is)
    (case c_is_number => k_is)
    (case kp_is_number => k_is)
    (case at_Ruler_init => k_is)
    (case fn_Ruler_init => k_is)
    (case l_Ruler_init => k_is)
    (case c_Ruler_init => k_is)
    (case kp_Ruler_init => k_is)
    (case mki_Ruler => k_is)
    (case kc_Ruler => k_is)
    (case a_law_rack => k_is)
    (case l_law_rack => k_is)
    (case c_law_rack => k_is)
    (case kp_law_rack => k_is)
    (case a_law_spans => k_is)
    (case l_law_spans => k_is)
    (case c_law_spans => k_is)
    (case kp_law_spans => k_is)
    (case a_law_steps => k_is)
    (case l_law_steps => k_is)
    (case c_law_steps => k_is)
    (case kp_law_steps => k_is)
    (case a_law_row => k_is)
    (case l_law_row => k_is)
    (case c_law_row => k_is)
    (case kp_law_row => k_is)
    (case at_Bench_place => k_is)
    (case sp_Bench_place => k_is)
    (case tk_Bench_place => k_is)
    (case rc_Bench_place => k_is)
    (case l_Bench_place => k_is)
    (case c_Bench_place => k_is)
    (case kp_Bench_place => k_is)
    (case at_Bench_scratches => k_is)
    (case sp_Bench_scratches => k_is)
    (case tk_Bench_scratches => k_is)
    (case rc_Bench_scratches => k_is)
    (case l_Bench_scratches => k_is)
    (case c_Bench_scratches => k_is)
    (case kp_Bench_scratches => k_is)
    (case a_bench_line => k_is)
    (case l_bench_line => k_is)
    (case c_bench_line => k_is)
    (case kp_bench_line => k_is)
    (case at_Ruler_length => k_is)
    (case sp_Ruler_length => k_is)
    (case tk_Ruler_length => k_is)
    (case rc_Ruler_length => k_is)
    (case l_Ruler_length => k_is)
    (case c_Ruler_length => k_is)
    (case kp_Ruler_length => k_is)
    (case at_Ruler_marks => k_is)
    (case sp_Ruler_marks => k_is)
    (case tk_Ruler_marks => k_is)
    (case rc_Ruler_marks => k_is)
    (case l_Ruler_marks => k_is)
    (case c_Ruler_marks => k_is)
    (case kp_Ruler_marks => k_is)
    (case a_drawing => k_is)
    (case l_drawing => k_is)
    (case c_drawing => k_is)
    (case kp_drawing => k_is)
    (case at_Bench_enter => k_is)
    (case fn_Bench_enter => k_is)
    (case l_Bench_enter => k_is)
    (case c_Bench_enter => k_is)
    (case kp_Bench_enter => k_is)
    (case at_Scene_init => k_is)
    (case fn_Scene_init => k_is)
    (case l_Scene_init => k_is)
    (case c_Scene_init => k_is)
    (case kp_Scene_init => k_is)
    (case mki_Scene => k_is)
    (case kc_Scene => k_is)
    (case at_Ruler_error => k_is)
    (case sp_Ruler_error => k_is)
    (case tk_Ruler_error => k_is)
    (case rc_Ruler_error => k_is)
    (case l_Ruler_error => k_is)
    (case c_Ruler_error => k_is)
    (case kp_Ruler_error => k_is)
    (case at_Rack_getitem => k_is)
    (case fn_Rack_getitem => k_is)
    (case l_Rack_getitem => k_is)
    (case c_Rack_getitem => k_is)
    (case kp_Rack_getitem => k_is)
    (case at_Bench_laid_on => k_is)
    (case fn_Bench_laid_on => k_is)
    (case l_Bench_laid_on => k_is)
    (case c_Bench_laid_on => k_is)
    (case kp_Bench_laid_on => k_is)
    (case a_spread_of => k_is)
    (case l_spread_of => k_is)
    (case c_spread_of => k_is)
    (case kp_spread_of => k_is)
    (case at_Ruler_spans => k_is)
    (case sp_Ruler_spans => k_is)
    (case tk_Ruler_spans => k_is)
    (case rc_Ruler_spans => k_is)
    (case l_Ruler_spans => k_is)
    (case c_Ruler_spans => k_is)
    (case kp_Ruler_spans => k_is)
    (case at_Bench_lay => k_is)
    (case fn_Bench_lay => k_is)
    (case l_Bench_lay => k_is)
    (case c_Bench_lay => k_is)
    (case kp_Bench_lay => k_is)
    (case at_Bench_scratch => k_is)
    (case fn_Bench_scratch => k_is)
    (case l_Bench_scratch => k_is)
    (case c_Bench_scratch => k_is)
    (case kp_Bench_scratch => k_is)
    (case a_validate_places => k_is)
    (case l_validate_places => k_is)
    (case c_validate_places => k_is)
    (case kp_validate_places => k_is)
    (case at_Bench_init => k_is)
    (case fn_Bench_init => k_is)
    (case l_Bench_init => k_is)
    (case c_Bench_init => k_is)
    (case kp_Bench_init => k_is)
    (case mki_Bench => k_is)
    (case kc_Bench => k_is)
    (case a_law => k_is)
    (case l_law => k_is)
    (case c_law => k_is)
    (case kp_law => k_is)
