import PyProof.Rows.All
import Wide.All
import OpenK.AllK
import Wide.FinOn
import HandS.ForMost
import HandS.Slots
import HandS.SlotsOwn
import HandS.TupAny
import HandS.Conv
import HandS.Rev
import HandS.Zip
import HandS.SortInts
import HandS.Style
import HandS.Flow
import HandS.Deep
import HandS.Exc
import HandS.ExcOwn
import HandS.TryOnly
import HandS.WordsExc
import HandS.Lambda
import KE.KeyNested
import HandS.IsInst
import KE.GoesMore
import HandS.DictComp
import HandS.More
import KE.KRevSl
import HandS.SetFor
import HandS.Star
import PyProof.DictUpdate
import KE.KDictSum
import HandS.Text
import HandS.SortRule
import PyProof.Rows.SortKeyStr
import HandS.DictEq
import PyProof.Rows.StrMeet
import HandS.Iter
import HandS.Wide
import KE.SortData
import KE.DataMinMax
import KE.DataCmp
import PyProof.Claim2Refuses
import HandS.Strs
import HandS.ExcIs
import HandS.ExcField
import HandS.EndOwn
import KE.KExcIs
import KE.KNestM
import KE.KDflt
import KE.KDictKeyed
import HandS.TupLen
import PyProof.TupleOfStr
import HandS.Property
import HandS.ExcInit
import HandS.MakeKwOnly
import KE.KExcSuper
import KE.KExcLine
import HandS.ClsMeth
import HandS.TupMul
import KE.KDictPairs
import HandS.TupSets
import KE.KDictCopyH
import HandS.ListItems
import HandS.Replace
import PyProof.Rows.PlainNe
import PyProof.Rows.IntBool
import HandS.RaiseMore
import HandS.Finally
import PySem.Challenge.RW_rulerbits_k66_whole_rows_and_their_numbe
set_option Elab.async false
set_option linter.all false
set_option maxRecDepth 100000
set_option maxHeartbeats 4000000
set_option autoImplicit false
set_option synthInstance.maxSize 1000
namespace RB
open PySem PySem.Spec PyProof.Rows L2
inductive D where
  | non | bl (b : Bool) | int (i : Int) | str (x : Str)
  | tup (xs : List D) | lst (xs : List D)
  | dic (ks : List Key) (xs : List D)
  | ins (C : Addr) (xs : List D)
  | adr (a : Addr)
  | obj (C : Addr) (ns : List Str) (xs : List D)
  | slo (C dx : Addr) (is : List Nat) (xs : List D)
  | xdo (x : Addr) (b : Bool)
  | scr (ns : List Int)
  | tab (q : Str)
  | hob (a : Addr) (os : List (Addr × HO))
  | kd (w : World) (ks xs : List D)
mutual
def nkD : D → NestedKey
  | .int i => .num i
  | .bl b => .num (if b = true then 1 else 0)
  | .str x => .text x
  | .tup ds => .tup (nkDs ds)
  | _ => .none
def nkDs : List D → List NestedKey
  | [] => []
  | d :: ds => nkD d :: nkDs ds
end
abbrev KdE := NestedKey × Addr × V
abbrev KdR : KdE → NestedKey × Addr × Value → Prop := fun x y => y.1 = x.1 ∧ y.2.1 = x.2.1 ∧ RelV x.2.2 y.2.2
def KdAt (w : World) (h : Heap) (a : Addr) (xs : List KdE) : Prop := (a == sysModules) = false ∧ xs.length ≤ sizeLine ∧ (xs.map (·.1)).Nodup ∧
  ∃ (ys : List (NestedKey × Addr × Value)) (o : Obj) (es : Array DictEntry) (ep : Nat), Paired KdR xs ys ∧ h.get? a = some o ∧ o.ExactDict ∧ o.data = .dict es ep ∧ es.toList = ys.map fun y => (⟨y.1.hash w, .ref y.2.1, y.2.2⟩ : DictEntry)
def KdO (w : World) (a : Addr) (xs : List KdE) : HO := .ext fun h => KdAt w h a xs
/-- a slot: unknown, shared (frozen) data, an own mutable object -/
inductive Sl where
  | no | sh (d : D) | own (d : D)
/-- a result: shared data, a fresh object, the object of an own slot -/
inductive Res where
  | sh (d : D) | fr (d : D) | pk (i : Nat)
abbrev Env2 := List Sl
mutual
def Rep (K : PySem.W.Frag) (F : Hp) : D → V → Prop
  | .non, v => v = .non
  | .bl b, v => v = .bl b
  | .int i, v => v = .int i
  | .str x, v => v = .str x
  | .tup ds, v => ∃ a vs, v = .ref a ∧ SqT K F a vs ∧ RepL K F ds vs
  | .lst ds, v => ∃ a vs, v = .ref a ∧ Rd F a (.lst vs) ∧ RepL K F ds vs
  | .dic ks ds, v => ∃ a o vs, v = .ref a ∧ F a = some (.frz o (.dK (ks.zip vs))) ∧ ks.length = ds.length ∧ RepL K F ds vs
  | .ins C ds, v => ∃ a dx vs, v = .ref a ∧ SlX.Slt F a C dx (vs.map some) ∧ RepL K F ds vs
  | .adr a, v => v = .ref a
  | .obj _ _ _, _ => False
  | .slo _ _ _ _, _ => False
  | .xdo _ _, _ => False
  | .tab _, _ => False
  | .hob a os, v => v = .ref a ∧ ∀ p ∈ os, F p.1 = some p.2
  | .kd w ks ds, v => ∃ (a : Addr) (ob : Obj) (es : List KdE), v = .ref a ∧ F a = some (.frz ob (KdO w a es)) ∧ es.map (·.1) = nkDs ks ∧ RepL K F ks (es.map fun e => .ref e.2.1) ∧ RepL K F ds (es.map (·.2.2))
  | .scr ns, v => ∃ a, v = .ref a ∧ SqL K F a (ns.map V.int)
def RepL (K : PySem.W.Frag) (F : Hp) : List D → List V → Prop
  | [], vs => vs = []
  | d :: ds, vs => ∃ v r, vs = v :: r ∧ Rep K F d v ∧ RepL K F ds r
end
abbrev Ex (H H' : Hp) : Prop := ∀ a o, H a = some o → H' a = some o
theorem Ex.refl (H : Hp) : Ex H H := fun _ _ h => h
theorem Ex.trans {A B C : Hp} (x : Ex A B) (y : Ex B C) : Ex A C := fun a o h => y a o (x a o h)
theorem Ex.new {H : Hp} {p : Addr} {o : HO} (h : H p = none) : Ex H (upd H p o) := fun a u e => by
  rw [upd_ne (ne_of_none e h)]; exact e
theorem Ex.rd {F F' : Hp} (e : Ex F F') {a : Addr} {u : HO} (h : Rd F a u) : Rd F' a u := by
  rcases h with h | ⟨o, h⟩
  · exact .inl (e a _ h)
  · exact .inr ⟨o, e a _ h⟩
theorem Ex.sqL {K : PySem.W.Frag} {F F' : Hp} (e : Ex F F') {a : Addr} {xs : List V} (h : SqL K F a xs) : SqL K F' a xs := by
  rcases h with h | h
  · exact .inl (e.rd h)
  · exact .inr h
theorem Ex.sqT {K : PySem.W.Frag} {F F' : Hp} (e : Ex F F') {a : Addr} {xs : List V} (h : SqT K F a xs) : SqT K F' a xs := by
  rcases h with h | h
  · exact .inl (e.rd h)
  · exact .inr h
theorem Ex.slt {F F' : Hp} (e : Ex F F') {a C dx : Addr} {vs : List (Option V)} (h : SlX.Slt F a C dx vs) : SlX.Slt F' a C dx vs := by
  rcases h with ⟨h1, h2⟩ | ⟨h1, h2⟩
  · exact .inl ⟨e _ _ h1, h2⟩
  · exact .inr ⟨e _ _ h1, e _ _ h2⟩
mutual
theorem Rep.mono {K : PySem.W.Frag} {F F' : Hp} (e : Ex F F') : ∀ (d : D) (v : V), Rep K F d v → Rep K F' d v
  | .non, v, h => h
  | .bl b, v, h => h
  | .int i, v, h => h
  | .str x, v, h => h
  | .tup ds, v, h => by
    obtain ⟨a, vs, h1, h2, h3⟩ := h
    exact ⟨a, vs, h1, e.sqT h2, RepL.mono e ds vs h3⟩
  | .lst ds, v, h => by
    obtain ⟨a, vs, h1, h2, h3⟩ := h
    exact ⟨a, vs, h1, e.rd h2, RepL.mono e ds vs h3⟩
  | .dic ks ds, v, h => by
    obtain ⟨a, o, vs, h1, h2, h4, h3⟩ := h
    exact ⟨a, o, vs, h1, e _ _ h2, h4, RepL.mono e ds vs h3⟩
  | .ins C ds, v, h => by
    obtain ⟨a, dx, vs, h1, h2, h3⟩ := h
    exact ⟨a, dx, vs, h1, e.slt h2, RepL.mono e ds vs h3⟩
  | .adr a, v, h => h
  | .obj _ _ _, v, h => h
  | .slo _ _ _ _, v, h => h
  | .xdo _ _, v, h => h
  | .tab _, v, h => h
  | .hob a os, v, h => ⟨h.1, fun p hp => e _ _ (h.2 p hp)⟩
  | .kd w ks ds, v, h => by
    obtain ⟨a, ob, es, h1, h2, h3, h4, h5⟩ := h
    exact ⟨a, ob, es, h1, e _ _ h2, h3, RepL.mono e ks _ h4, RepL.mono e ds _ h5⟩
  | .scr ns, v, h => by
    obtain ⟨a, h1, h2⟩ := h
    exact ⟨a, h1, e.sqL h2⟩
theorem RepL.mono {K : PySem.W.Frag} {F F' : Hp} (e : Ex F F') : ∀ (ds : List D) (vs : List V), RepL K F ds vs → RepL K F' ds vs
  | [], vs, h => h
  | d :: ds, vs, h => by
    obtain ⟨v, r, h1, h2, h3⟩ := h
    exact ⟨v, r, h1, Rep.mono e d v h2, RepL.mono e ds r h3⟩
end
section
variable {K : PySem.W.Frag} {F : Hp}
theorem RepL.length : ∀ {ds : List D} {vs : List V}, RepL K F ds vs → vs.length = ds.length
  | [], vs, h => by cases (show vs = [] from h); rfl
  | d :: ds, vs, h => by
    obtain ⟨v, r, rfl, _, h3⟩ := h
    rw [List.length_cons, List.length_cons, RepL.length h3]
theorem RepL.get : ∀ {ds : List D} {vs : List V} {i : Nat} {d : D}, RepL K F ds vs → ds[i]? = some d → ∃ v, vs[i]? = some v ∧ Rep K F d v
  | [], vs, i, d, h, e => by simp at e
  | d0 :: ds, vs, 0, d, h, e => by
    obtain ⟨v, r, rfl, h2, _⟩ := h
    have : d0 = d := by simpa using e
    subst this
    exact ⟨v, rfl, h2⟩
  | d0 :: ds, vs, i + 1, d, h, e => by
    obtain ⟨v, r, rfl, _, h3⟩ := h
    obtain ⟨u, h1, h2⟩ := RepL.get (i := i) h3 (by simpa using e)
    exact ⟨u, by simpa using h1, h2⟩
theorem RepL.append : ∀ {ds es : List D} {vs us : List V}, RepL K F ds vs → RepL K F es us → RepL K F (ds ++ es) (vs ++ us)
  | [], es, vs, us, h, g => by cases (show vs = [] from h); exact g
  | d :: ds, es, vs, us, h, g => by
    obtain ⟨v, r, rfl, h2, h3⟩ := h
    exact ⟨v, r ++ us, rfl, h2, RepL.append h3 g⟩
theorem RepL.one {d : D} {v : V} (h : Rep K F d v) : RepL K F [d] [v] := ⟨v, [], rfl, h, rfl⟩
theorem RepL.drop : ∀ (n : Nat) {ds : List D} {vs : List V}, RepL K F ds vs → RepL K F (ds.drop n) (vs.drop n)
  | 0, _, _, h => h
  | n + 1, [], vs, h => by cases (show vs = [] from h); exact rfl
  | n + 1, d :: ds, vs, h => by
    obtain ⟨v, r, rfl, h2, h3⟩ := h
    exact RepL.drop n h3
theorem RepL.take : ∀ (n : Nat) {ds : List D} {vs : List V}, RepL K F ds vs → RepL K F (ds.take n) (vs.take n)
  | 0, _, _, h => rfl
  | n + 1, [], vs, h => by cases (show vs = [] from h); exact rfl
  | n + 1, d :: ds, vs, h => by
    obtain ⟨v, r, rfl, h2, h3⟩ := h
    exact ⟨v, r.take n, rfl, h2, RepL.take n h3⟩
theorem RepL.set : ∀ (i : Nat) {ds : List D} {vs : List V} {d : D} {v : V}, RepL K F ds vs → Rep K F d v → RepL K F (ds.set i d) (vs.set i v)
  | i, [], vs, d, v, h, g => by cases (show vs = [] from h); exact rfl
  | 0, d0 :: ds, vs, d, v, h, g => by
    obtain ⟨u, r, rfl, _, h3⟩ := h
    exact ⟨v, r, rfl, g, h3⟩
  | i + 1, d0 :: ds, vs, d, v, h, g => by
    obtain ⟨u, r, rfl, h2, h3⟩ := h
    exact ⟨u, r.set i v, rfl, h2, RepL.set i h3 g⟩
theorem RepL.eraseIdx : ∀ (i : Nat) {ds : List D} {vs : List V}, RepL K F ds vs → RepL K F (ds.eraseIdx i) (vs.eraseIdx i)
  | i, [], vs, h => by cases (show vs = [] from h); exact rfl
  | 0, d0 :: ds, vs, h => by
    obtain ⟨u, r, rfl, _, h3⟩ := h
    exact h3
  | i + 1, d0 :: ds, vs, h => by
    obtain ⟨u, r, rfl, h2, h3⟩ := h
    exact ⟨u, r.eraseIdx i, rfl, h2, RepL.eraseIdx i h3⟩
/-- lists of ints -/
theorem RepL.ints : ∀ {ns : List Int} {vs : List V}, RepL K F (ns.map D.int) vs → vs = ns.map V.int
  | [], vs, h => h
  | n :: ns, vs, h => by
    obtain ⟨v, r, rfl, h2, h3⟩ := h
    cases (show v = .int n from h2)
    rw [RepL.ints h3]; rfl
theorem RepL.of_ints : ∀ (ns : List Int), RepL K F (ns.map D.int) (ns.map V.int)
  | [] => rfl
  | n :: ns => ⟨_, _, rfl, rfl, RepL.of_ints ns⟩
end
/-- what is not frozen as it stands -/
def isDic : D → Bool
  | .lst _ => false
  | .tup _ => false
  | .int _ => false
  | .bl _ => false
  | .str _ => false
  | .non => false
  | .ins _ _ => false
  | .adr _ => false
  | _ => true
/-- the object at p, its parts frozen -/
def Own (K : PySem.W.Frag) (F H : Hp) (p : Addr) : D → Prop
  | .lst ds => ∃ vs, H p = some (.lst vs) ∧ RepL K F ds vs
  | .dic ks ds => ∃ vs, H p = some (.dK (ks.zip vs)) ∧ ks.length = ds.length ∧ RepL K F ds vs
  | .obj C ns ds => ∃ dx vs, H p = some (.ins C dx (ns.zip vs)) ∧ ns.length = ds.length ∧ RepL K F ds vs
  | .slo C dx is ds => (is = [] ∧ ds = [] ∧ H p = some (.ins C dx [])) ∨ ∃ us vs, H p = some (SlX.SlO p C dx us) ∧ is.length = ds.length ∧ RepL K F ds vs ∧ ∀ (j : Nat) (i : Nat) (v : V), is[j]? = some i → vs[j]? = some v → us[i]? = some (some v)
  | .xdo x b => H p = some (if b then .xd [] else .own x)
  | .tab q => ∃ ps : Array Value, H p = some (.tbl ps) ∧ TriplesOk ps.toList ∧ ∀ (pos : Pos) (cv : Value), codeAmong pos ps.toList = some cv → ∃ c, cv = .ref c ∧ F c = some (LamX.CodeO c q)
  | .kd w ks ds => ∃ es : List KdE, H p = some (KdO w p es) ∧ es.map (·.1) = nkDs ks ∧ RepL K F ks (es.map fun e => .ref e.2.1) ∧ RepL K F ds (es.map (·.2.2))
  | _ => False
theorem Own.mono {K : PySem.W.Frag} {F F' H H' : Hp} {p : Addr} {d : D} (e : Ex F F') (k : ∀ o, H p = some o → H' p = some o) (h : Own K F H p d) : Own K F' H' p d := by
  cases d with
  | lst ds => obtain ⟨vs, h1, h2⟩ := h; exact ⟨vs, k _ h1, RepL.mono e _ _ h2⟩
  | dic ks ds => obtain ⟨vs, h1, h3, h2⟩ := h; exact ⟨vs, k _ h1, h3, RepL.mono e _ _ h2⟩
  | obj C ns ds => obtain ⟨dx, vs, h1, h3, h2⟩ := h; exact ⟨dx, vs, k _ h1, h3, RepL.mono e _ _ h2⟩
  | slo C dx is ds =>
    rcases h with ⟨h1, h2, h3⟩ | ⟨us, vs, h1, h2, h3, h4⟩
    · exact .inl ⟨h1, h2, k _ h3⟩
    · exact .inr ⟨us, vs, k _ h1, h2, RepL.mono e _ _ h3, h4⟩
  | xdo x b => exact k _ h
  | kd w ks ds => obtain ⟨es, h1, h2, h3, h4⟩ := h; exact ⟨es, k _ h1, h2, RepL.mono e _ _ h3, RepL.mono e _ _ h4⟩
  | tab q => obtain ⟨ps, h1, h2, h3⟩ := h; exact ⟨ps, k _ h1, h2, fun pos cv hc => let ⟨c, e1, e2⟩ := h3 pos cv hc; ⟨c, e1, e _ _ e2⟩⟩
  | _ => exact h.elim
theorem Own.there {K : PySem.W.Frag} {F H : Hp} {p : Addr} {d : D} (h : Own K F H p d) : ∃ o, H p = some o := by
  cases d with
  | lst ds => obtain ⟨vs, h1, h2⟩ := h; exact ⟨_, h1⟩
  | dic ks ds => obtain ⟨vs, h1, h3, h2⟩ := h; exact ⟨_, h1⟩
  | obj C ns ds => obtain ⟨dx, vs, h1, h3, h2⟩ := h; exact ⟨_, h1⟩
  | slo C dx is ds =>
    rcases h with ⟨h1, h2, h3⟩ | ⟨us, vs, h1, h2, h3, h4⟩
    · exact ⟨_, h3⟩
    · exact ⟨_, h1⟩
  | xdo x b => exact ⟨_, h⟩
  | tab q => obtain ⟨ps, h1, _⟩ := h; exact ⟨_, h1⟩
  | kd w ks ds => obtain ⟨es, h1, _⟩ := h; exact ⟨_, h1⟩
  | _ => exact h.elim
/-- a view: frozen, or an object whose parts are -/
def Vw (K : PySem.W.Frag) (F H : Hp) (d : D) (v : V) : Prop := Rep K F d v ∨ ∃ p, v = .ref p ∧ Own K F H p d
theorem Vw.lst {K : PySem.W.Frag} {F H : Hp} (e : Ex F H) {ds : List D} {v : V} (h : Vw K F H (.lst ds) v) : ∃ a vs, v = .ref a ∧ Rd H a (.lst vs) ∧ RepL K F ds vs := by
  rcases h with ⟨a, vs, h1, h2, h3⟩ | ⟨p, h1, vs, h2, h3⟩
  · exact ⟨a, vs, h1, e.rd h2, h3⟩
  · exact ⟨p, vs, h1, .inl h2, h3⟩
theorem Vw.tup {K : PySem.W.Frag} {F H : Hp} (e : Ex F H) {ds : List D} {v : V} (h : Vw K F H (.tup ds) v) : ∃ a vs, v = .ref a ∧ SqT K H a vs ∧ RepL K F ds vs := by
  rcases h with ⟨a, vs, h1, h2, h3⟩ | ⟨p, h1, h2⟩
  · exact ⟨a, vs, h1, e.sqT h2, h3⟩
  · exact h2.elim
theorem Vw.dic {K : PySem.W.Frag} {F H : Hp} (e : Ex F H) {ks : List Key} {ds : List D} {v : V} (h : Vw K F H (.dic ks ds) v) : ∃ a vs, v = .ref a ∧ Rd H a (.dK (ks.zip vs)) ∧ ks.length = ds.length ∧ RepL K F ds vs := by
  rcases h with ⟨a, o, vs, h1, h2, h4, h3⟩ | ⟨p, h1, vs, h2, h4, h3⟩
  · exact ⟨a, vs, h1, .inr ⟨o, e _ _ h2⟩, h4, h3⟩
  · exact ⟨p, vs, h1, .inl h2, h4, h3⟩
theorem Vw.int {K : PySem.W.Frag} {F H : Hp} {i : Int} {v : V} (h : Vw K F H (.int i) v) : v = .int i := by
  rcases h with h | ⟨p, h1, h2⟩
  · exact h
  · exact h2.elim
theorem Vw.bl {K : PySem.W.Frag} {F H : Hp} {i : Bool} {v : V} (h : Vw K F H (.bl i) v) : v = .bl i := by
  rcases h with h | ⟨p, h1, h2⟩
  · exact h
  · exact h2.elim
theorem Vw.str {K : PySem.W.Frag} {F H : Hp} {i : Str} {v : V} (h : Vw K F H (.str i) v) : v = .str i := by
  rcases h with h | ⟨p, h1, h2⟩
  · exact h
  · exact h2.elim
theorem Vw.non {K : PySem.W.Frag} {F H : Hp} {v : V} (h : Vw K F H .non v) : v = .non := by
  rcases h with h | ⟨p, h1, h2⟩
  · exact h
  · exact h2.elim
theorem Vw.ins {K : PySem.W.Frag} {F H : Hp} (e : Ex F H) {C : Addr} {ds : List D} {v : V} (h : Vw K F H (.ins C ds) v) : ∃ a dx vs, v = .ref a ∧ SlX.Slt H a C dx (vs.map some) ∧ RepL K F ds vs := by
  rcases h with ⟨a, dx, vs, h1, h2, h3⟩ | ⟨p, h1, h2⟩
  · exact ⟨a, dx, vs, h1, e.slt h2, h3⟩
  · exact h2.elim
/-- the open region: objects that are known by their address, as data -/
abbrev GD := Addr → Option D
def updG (G : GD) (a : Addr) (d : D) : GD := fun b => if b = a then some d else G b
theorem updG_same {G : GD} {a : Addr} {d : D} : updG G a d a = some d := by unfold updG; rw [if_pos rfl]
theorem updG_ne {G : GD} {a b : Addr} {d : D} (h : b ≠ a) : updG G a d b = G b := by unfold updG; rw [if_neg h]
/-- F0: what was frozen at the entry; T: what others hold; F: frozen; G: the open region; H: all -/
structure Bas (K : PySem.W.Frag) (F0 T F : Hp) (G : GD) (H : Hp) : Prop where
  ff : Ex F0 F
  ft : ∀ a o, F a = some o → F0 a = some o ∨ T a = none
  fh : Ex F H
  gh : ∀ a d, G a = some d → Own K F H a d
  fg : ∀ a o, G a = some o → F a = none
  gt : ∀ a o, G a = some o → T a = none
  tk : Ex T H
def SlotOk (K : PySem.W.Frag) (T F : Hp) (G : GD) (H : Hp) : Sl → Option (Option V) → Prop
  | .no, _ => True
  | .sh d, x => ∃ v, x = some (some v) ∧ Rep K F d v
  | .own d, x => ∃ p, x = some (some (.ref p)) ∧ Own K F H p d ∧ F p = none ∧ G p = none ∧ T p = none
structure Sta (K : PySem.W.Frag) (F0 T F : Hp) (G : GD) (H : Hp) (r : Env2) (σ : L2.St) : Prop where
  bas : Bas K F0 T F G H
  len : r.length = σ.length
  sl : ∀ (i : Nat) (s : Sl), r[i]? = some s → SlotOk K T F G H s σ[i]?
  ap : ∀ (i j : Nat) (d e : D), i ≠ j → r[i]? = some (.own d) → r[j]? = some (.own e) → σ[i]? ≠ σ[j]?
def ResOk (K : PySem.W.Frag) (T F : Hp) (G : GD) (H : Hp) (r : Env2) (σ : L2.St) : Res → V → Prop
  | .sh d, v => Rep K F d v
  | .fr d, v => ∃ p, v = .ref p ∧ Own K F H p d ∧ F p = none ∧ G p = none ∧ T p = none ∧ ∀ (i : Nat) (e : D), r[i]? = some (.own e) → σ[i]? ≠ some (some (.ref p))
  | .pk i, v => σ[i]? = some (some v) ∧ ∃ d, r[i]? = some (.own d)
/-- the view of a result -/
def vw (r : Env2) : Res → Option D
  | .sh d => some d
  | .fr d => if isDic d then none else some d
  | .pk i => match r[i]? with
    | some (.own d) => some d
    | some (.sh d) => some d
    | _ => none
/-- the view of a result, or of an object of the open region -/
def VwR (r : Env2) (G : GD) (x : Res) (d : D) : Prop := vw r x = some d ∨ ∃ a, x = .sh (.adr a) ∧ G a = some d
def RtOk (K : PySem.W.Frag) (T F : Hp) (G : GD) (H : Hp) : Res → V → Prop
  | .sh d, v => Rep K F d v
  | .fr d, v => ∃ p, v = .ref p ∧ Own K F H p d ∧ F p = none ∧ G p = none ∧ T p = none
  | .pk _, _ => False
section
variable {K : PySem.W.Frag} {F0 T F : Hp} {G : GD} {H : Hp} {r : Env2} {σ : L2.St}
theorem Sta.slot (S : Sta K F0 T F G H r σ) {i : Nat} {d : D} (h : r[i]? = some (.sh d)) : ∃ v, σ[i]? = some (some v) ∧ Rep K F d v := S.sl i _ h
theorem Sta.ownS (S : Sta K F0 T F G H r σ) {i : Nat} {d : D} (h : r[i]? = some (.own d)) : ∃ p, σ[i]? = some (some (.ref p)) ∧ Own K F H p d ∧ F p = none ∧ G p = none ∧ T p = none := S.sl i _ h
theorem Bas.gh' (B : Bas K F0 T F G H) {a : Addr} {d : D} (h : G a = some d) : ∃ o, H a = some o := (B.gh a d h).there
theorem Bas.freshF (B : Bas K F0 T F G H) {p : Addr} (hp : H p = none) : F p = none ∧ G p = none ∧ T p = none := by
  refine ⟨?_, ?_, ?_⟩
  · cases e : F p with
    | none => rfl
    | some u => rw [B.fh p u e] at hp; cases hp
  · cases e : G p with
    | none => rfl
    | some u => obtain ⟨o, ho⟩ := B.gh' e; rw [ho] at hp; cases hp
  · cases e : T p with
    | none => rfl
    | some u => rw [B.tk p u e] at hp; cases hp
/-- the open objects, while F and H grow -/
theorem Bas.gmono (B : Bas K F0 T F G H) {F' H' : Hp} (ef : Ex F F') (eh : ∀ a o, G a ≠ none → H a = some o → H' a = some o) : ∀ a d, G a = some d → Own K F' H' a d := fun a d h =>
  (B.gh a d h).mono ef fun o ho => eh a o (by rw [h]; exact fun z => nomatch z) ho
/-- the frozen part grows by a new object, others keep -/
theorem Bas.newF (B : Bas K F0 T F G H) {p : Addr} {o : HO} (hp : H p = none) : Bas K F0 T (upd F p o) G (upd H p o) := by
  obtain ⟨fp, gp, tp⟩ := B.freshF hp
  refine ⟨B.ff.trans (Ex.new fp), fun a o' e => ?_, fun a o' e => ?_, B.gmono (Ex.new fp) fun a u _ h => Ex.new hp a u h, fun a o' e => ?_, B.gt, B.tk.trans (Ex.new hp)⟩
  · by_cases h : a = p
    · subst h; exact .inr tp
    · rw [upd_ne h] at e; exact B.ft a o' e
  · by_cases h : a = p
    · subst h; rw [upd_same] at e ⊢; exact e
    · rw [upd_ne h] at e ⊢; exact B.fh a o' e
  · by_cases h : a = p
    · subst h; rw [gp] at e; cases e
    · rw [upd_ne h]; exact B.fg a o' e
/-- a new object that is not frozen -/
theorem Bas.newH (B : Bas K F0 T F G H) {p : Addr} {o : HO} (hp : H p = none) : Bas K F0 T F G (upd H p o) :=
  ⟨B.ff, B.ft, B.fh.trans (Ex.new hp), B.gmono (Ex.refl _) fun a u _ h => Ex.new hp a u h, B.fg, B.gt, B.tk.trans (Ex.new hp)⟩
/-- an object that nobody else knows is written -/
theorem Bas.put (B : Bas K F0 T F G H) {p : Addr} {o : HO} (h1 : F p = none) (h2 : G p = none) (h3 : T p = none) : Bas K F0 T F G (upd H p o) := by
  refine ⟨B.ff, B.ft, fun a u e => ?_, B.gmono (Ex.refl _) fun a u hg e => ?_, B.fg, B.gt, fun a u e => ?_⟩
  · rw [upd_ne (ne_of_none e h1)]; exact B.fh a u e
  · rw [upd_ne (fun z => hg (by rw [z]; exact h2))]; exact e
  · rw [upd_ne (ne_of_none e h3)]; exact B.tk a u e
theorem Bas.frz (B : Bas K F0 T F G H) {p : Addr} {o : HO} (ho : H p = some o) (h1 : F p = none) (h2 : G p = none) (h3 : T p = none) : Bas K F0 T (upd F p o) G H := by
  refine ⟨B.ff.trans (Ex.new h1), fun a u e => ?_, fun a u e => ?_, B.gmono (Ex.new h1) fun _ _ _ h => h, fun a u e => ?_, B.gt, B.tk⟩
  · by_cases h : a = p
    · subst h; exact .inr h3
    · rw [upd_ne h] at e; exact B.ft a u e
  · by_cases h : a = p
    · subst h; rw [upd_same] at e; cases e; exact ho
    · rw [upd_ne h] at e; exact B.fh a u e
  · by_cases h : a = p
    · subst h; rw [h2] at e; cases e
    · rw [upd_ne h]; exact B.fg a u e
/-- the slots stand when F, H grow and the own objects keep -/
theorem Sta.grow {F' : Hp} {G' : GD} {H' : Hp} {F0' T' : Hp} (S : Sta K F0 T F G H r σ) (B : Bas K F0' T' F' G' H') (ef : Ex F F')
    (ko : ∀ p, F p = none → G p = none → T p = none → (∃ o, H p = some o) → (∀ o, H p = some o → H' p = some o) ∧ F' p = none ∧ G' p = none ∧ T' p = none) : Sta K F0' T' F' G' H' r σ := by
  refine ⟨B, S.len, fun i s e => ?_, S.ap⟩
  have h := S.sl i s e
  cases s with
  | no => trivial
  | sh d => obtain ⟨v, h1, h2⟩ := h; exact ⟨v, h1, Rep.mono ef _ _ h2⟩
  | own d =>
    obtain ⟨p, h1, h2, h3, h4, h5⟩ := h
    obtain ⟨k1, k2, k3, k4⟩ := ko p h3 h4 h5 h2.there
    exact ⟨p, h1, h2.mono ef k1, k2, k3, k4⟩
theorem Sta.newF (S : Sta K F0 T F G H r σ) {p : Addr} {o : HO} (hp : H p = none) : Sta K F0 T (upd F p o) G (upd H p o) r σ := by
  refine S.grow (S.bas.newF hp) (Ex.new (S.bas.freshF hp).1) fun q h1 h2 h3 ⟨u, hu⟩ => ?_
  have hq : q ≠ p := fun z => by subst z; rw [hp] at hu; cases hu
  exact ⟨fun o' e => by rw [upd_ne hq]; exact e, by rw [upd_ne hq]; exact h1, h2, h3⟩
theorem Sta.newH (S : Sta K F0 T F G H r σ) {p : Addr} {o : HO} (hp : H p = none) : Sta K F0 T F G (upd H p o) r σ := by
  refine S.grow (S.bas.newH hp) (Ex.refl _) fun q h1 h2 h3 ⟨u, hu⟩ => ?_
  have hq : q ≠ p := fun z => by subst z; rw [hp] at hu; cases hu
  exact ⟨fun o' e => by rw [upd_ne hq]; exact e, h1, h2, h3⟩
theorem Sta.freshR (S : Sta K F0 T F G H r σ) {p : Addr} (hp : H p = none) : ∀ (i : Nat) (e : D), r[i]? = some (.own e) → σ[i]? ≠ some (some (.ref p)) := fun i e he z => by
  obtain ⟨q, h1, h2, _⟩ := S.ownS he
  rw [z] at h1
  cases h1
  obtain ⟨o, ho⟩ := h2.there
  rw [hp] at ho; cases ho
/-- a slot is stored -/
theorem Sta.set (S : Sta K F0 T F G H r σ) {i : Nat} {s : Sl} {v : V} (hi : i < r.length) (h : SlotOk K T F G H s (some (some v))) (ha : ∀ d, s = .own d → ∀ (j : Nat) (e : D), r[j]? = some (.own e) → j ≠ i → σ[j]? ≠ some (some v)) : Sta K F0 T F G H (r.set i s) (σ.set i (some v)) := by
  have hiσ : i < σ.length := by rw [← S.len]; exact hi
  refine ⟨S.bas, by rw [List.length_set, List.length_set]; exact S.len, fun j s' e => ?_, fun j k d e hjk ej ek => ?_⟩
  · by_cases hj : i = j
    · subst hj
      rw [List.getElem?_set_self hi] at e
      cases e
      rw [List.getElem?_set_self hiσ]
      exact h
    · rw [List.getElem?_set_ne hj] at e ⊢
      exact S.sl j s' e
  · by_cases hj : i = j
    · subst hj
      rw [List.getElem?_set_self hi] at ej
      cases ej
      rw [List.getElem?_set_ne hjk] at ek
      rw [List.getElem?_set_self hiσ, List.getElem?_set_ne hjk]
      exact fun z => ha d rfl k e ek (Ne.symm hjk) z.symm
    · rw [List.getElem?_set_ne hj] at ej
      by_cases hk : i = k
      · subst hk
        rw [List.getElem?_set_self hi] at ek
        cases ek
        rw [List.getElem?_set_self hiσ, List.getElem?_set_ne hj]
        exact ha e rfl j d ej hjk
      · rw [List.getElem?_set_ne hk] at ek
        rw [List.getElem?_set_ne hj, List.getElem?_set_ne hk]
        exact S.ap j k d e hjk ej ek
/-- knowledge about slots is forgotten -/
inductive Wk : Env2 → Env2 → Prop
  | nil : Wk [] []
  | no {s : Sl} {a b : Env2} (h : Wk a b) : Wk (s :: a) (.no :: b)
  | eq {s : Sl} {a b : Env2} (h : Wk a b) : Wk (s :: a) (s :: b)
theorem Wk.get {a b : Env2} (w : Wk a b) : ∀ (i : Nat) (s : Sl), b[i]? = some s → s = .no ∨ a[i]? = some s := by
  induction w with
  | nil => intro i s h; simp at h
  | no _ ih =>
    intro i s h
    cases i with
    | zero => left; simpa using h.symm
    | succ i => simpa using ih i s (by simpa using h)
  | eq _ ih =>
    intro i s h
    cases i with
    | zero => right; simpa using h
    | succ i => simpa using ih i s (by simpa using h)
theorem Wk.len {a b : Env2} (w : Wk a b) : b.length = a.length := by
  induction w with
  | nil => rfl
  | no _ ih => simp [ih]
  | eq _ ih => simp [ih]
theorem Wk.refl : ∀ (a : Env2), Wk a a
  | [] => .nil
  | _ :: a => .eq (Wk.refl a)
theorem Sta.weak {r' : Env2} (S : Sta K F0 T F G H r σ) (w : Wk r r') : Sta K F0 T F G H r' σ := by
  refine ⟨S.bas, by rw [w.len]; exact S.len, fun i s e => ?_, fun i j d e hij ei ej => ?_⟩
  · rcases w.get i s e with z | z
    · subst z; trivial
    · exact S.sl i s z
  · rcases w.get i _ ei with z | z
    · cases z
    · rcases w.get j _ ej with y | y
      · cases y
      · exact S.ap i j d e hij z y
/-- an own slot is frozen -/
theorem Sta.frzSlot (S : Sta K F0 T F G H r σ) {i : Nat} {d : D} (hD : isDic d = false) (h : r[i]? = some (.own d)) : ∃ F', Ex F F' ∧ Sta K F0 T F' G H (r.set i (.sh d)) σ ∧ ∃ v, σ[i]? = some (some v) ∧ Rep K F' d v := by
  obtain ⟨p, h1, h2, h3, h4, h5⟩ := S.ownS h
  obtain ⟨o, ho⟩ := h2.there
  have hi : i < r.length := (List.getElem?_eq_some_iff.mp h).1
  have ef : Ex F (upd F p o) := Ex.new h3
  have rp : Rep K (upd F p o) d (.ref p) := by
    cases d with
    | lst ds =>
      obtain ⟨vs, q1, q2⟩ := h2
      rw [ho] at q1; cases q1
      exact ⟨p, vs, rfl, .inl upd_same, RepL.mono ef _ _ q2⟩
    | dic ks ds => cases hD
    | obj C ns ds => cases hD
    | slo C dx is ds => cases hD
    | xdo x b => cases hD
    | tab q => cases hD
    | kd w ks ds => cases hD
    | _ => exact h2.elim
  refine ⟨upd F p o, ef, ⟨S.bas.frz ho h3 h4 h5, by rw [List.length_set]; exact S.len, fun j s e => ?_, fun j k d' e' hjk ej ek => ?_⟩, .ref p, h1, rp⟩
  · by_cases hj : i = j
    · subst hj
      rw [List.getElem?_set_self hi] at e
      cases e
      exact ⟨_, h1, rp⟩
    · rw [List.getElem?_set_ne hj] at e
      have q := S.sl j s e
      cases s with
      | no => trivial
      | sh d' => obtain ⟨v, q1, q2⟩ := q; exact ⟨v, q1, Rep.mono ef _ _ q2⟩
      | own d' =>
        obtain ⟨p', q1, q2, q3, q4, q5⟩ := q
        have hpp : p' ≠ p := fun z => by
          subst z
          exact S.ap i j d d' hj h e (h1.trans q1.symm)
        exact ⟨p', q1, q2.mono ef fun _ z => z, by rw [upd_ne hpp]; exact q3, q4, q5⟩
  · have hj : i ≠ j := fun z => by
      subst z
      rw [List.getElem?_set_self hi] at ej; cases ej
    have hk : i ≠ k := fun z => by
      subst z
      rw [List.getElem?_set_self hi] at ek; cases ek
    rw [List.getElem?_set_ne hj] at ej
    rw [List.getElem?_set_ne hk] at ek
    exact S.ap j k d' e' hjk ej ek
/-- a fresh result is frozen -/
theorem Sta.frzRes (S : Sta K F0 T F G H r σ) {d : D} {v : V} (hD : isDic d = false) (h : ResOk K T F G H r σ (.fr d) v) : ∃ F', Ex F F' ∧ Sta K F0 T F' G H r σ ∧ Rep K F' d v := by
  obtain ⟨p, rfl, h2, h3, h4, h5, h6⟩ := h
  obtain ⟨o, ho⟩ := h2.there
  have ef : Ex F (upd F p o) := Ex.new h3
  have rp : Rep K (upd F p o) d (.ref p) := by
    cases d with
    | lst ds =>
      obtain ⟨vs, q1, q2⟩ := h2
      rw [ho] at q1; cases q1
      exact ⟨p, vs, rfl, .inl upd_same, RepL.mono ef _ _ q2⟩
    | dic ks ds => cases hD
    | obj C ns ds => cases hD
    | slo C dx is ds => cases hD
    | xdo x b => cases hD
    | tab q => cases hD
    | kd w ks ds => cases hD
    | _ => exact h2.elim
  refine ⟨upd F p o, ef, ⟨S.bas.frz ho h3 h4 h5, S.len, fun j s e => ?_, S.ap⟩, rp⟩
  have q := S.sl j s e
  cases s with
  | no => trivial
  | sh d' => obtain ⟨v, q1, q2⟩ := q; exact ⟨v, q1, Rep.mono ef _ _ q2⟩
  | own d' =>
    obtain ⟨p', q1, q2, q3, q4, q5⟩ := q
    have hpp : p' ≠ p := fun z => by
      subst z
      exact h6 j d' e q1
    exact ⟨p', q1, q2.mono ef fun _ z => z, by rw [upd_ne hpp]; exact q3, q4, q5⟩
/-- the view of a result -/
theorem Sta.view (S : Sta K F0 T F G H r σ) {x : Res} {v : V} {d : D} (h : ResOk K T F G H r σ x v) (e : vw r x = some d) : Vw K F H d v := by
  cases x with
  | sh d' => cases e; exact .inl h
  | fr d' =>
    have e' : (if isDic d' then none else some d') = some d := e
    split at e'
    · cases e'
    · cases e'; obtain ⟨p, h1, h2, _⟩ := h; exact .inr ⟨p, h1, h2⟩
  | pk i =>
    obtain ⟨h1, d', h2⟩ := h
    have e' : (match r[i]? with | some (.own d) => some d | some (.sh d) => some d | _ => none) = some d := e
    rw [h2] at e'
    cases e'
    obtain ⟨p, q1, q2, _⟩ := S.ownS h2
    rw [h1] at q1
    cases q1
    exact .inr ⟨p, rfl, q2⟩
theorem Sta.viewR (S : Sta K F0 T F G H r σ) {x : Res} {v : V} {d : D} (h : ResOk K T F G H r σ x v) (e : VwR r G x d) : Vw K F H d v := by
  rcases e with e | ⟨a, rfl, hG⟩
  · exact S.view h e
  · cases (show v = .ref a from h)
    exact .inr ⟨a, rfl, S.bas.gh _ _ hG⟩
end
def Run (X : Cx) (e : Expr) : TE := fun σ H Q => ∀ (pins : List (Addr × Obj)) (s : Shared), Inv X pins σ H s → wpAny (model X.prog X.w) X.A (eval e X.env) (EP X pins σ Q) X.xe s
def RunT (X : Cx) (e : Expr) : TT := fun σ H Q => ∀ (pins : List (Addr × Obj)) (s : Shared), Inv X pins σ H s → wpAny (model X.prog X.w) X.A (isTrue e X.env (eval e X.env)) (TP X pins σ Q) X.xe s
def RunW (X : Cx) (e : Expr) : TT := fun σ H Q => ∀ (whole : Sem Value) (pins : List (Addr × Obj)) (s : Shared), Inv X pins σ H s → wpAny (model X.prog X.w) X.A (isTrue e X.env whole) (TP X pins σ Q) X.xe s
def RunA (X : Cx) (es : List Expr) : TA := fun σ H Q => ∀ (pos : Pos) (pins : List (Addr × Obj)) (s : Shared), Inv X pins σ H s → wpAny (model X.prog X.w) X.A (spliced (backTo pos (starEach es X.env))) (AP X pins σ Q) X.xe s
def RunS (X : Cx) (st : Stmt) : TS := fun D σ H => ∀ (pins : List (Addr × Obj)) (s : Shared), Inv X pins σ H s → wpAny (model X.prog X.w) X.A (exec st X.env) (SP X pins D) X.xe s
def RunB (X : Cx) (st : List Stmt) : TS := fun D σ H => ∀ (pins : List (Addr × Obj)) (s : Shared), Inv X pins σ H s → wpAny (model X.prog X.w) X.A (execs st X.env) (SP X pins D) X.xe s
section
variable {X : Cx} {e : Expr} {es : List Expr} {st : Stmt} {sts : List Stmt} {σ : L2.St} {H : Hp}
theorem peR : PE X e (Run X e) := ⟨fun pins s _ _ _ I h => h pins s I⟩
theorem ptR : PT X e (RunT X e) := ⟨fun pins s _ _ _ I h => h pins s I⟩
theorem pwR : PW X e (RunW X e) := ⟨fun w pins s _ _ _ I h => h w pins s I⟩
theorem paR : PA X es (RunA X es) := ⟨fun pos pins s _ _ _ I h => h pos pins s I⟩
theorem psR : PS X st (RunS X st) := ⟨fun pins s _ _ _ I h => h pins s I⟩
theorem pbR : PSs X sts (RunB X sts) := ⟨fun pins s _ _ _ I h => h pins s I⟩
theorem Run.of {t : TE} {Q : VK} (h : PE X e t) (q : t σ H Q) : Run X e σ H Q := fun pins s I => h.run pins s σ H Q I q
theorem RunT.of {t : TT} {Q : Bool → Hp → Prop} (h : PT X e t) (q : t σ H Q) : RunT X e σ H Q := fun pins s I => h.run pins s σ H Q I q
theorem RunW.of {t : TT} {Q : Bool → Hp → Prop} (h : PW X e t) (q : t σ H Q) : RunW X e σ H Q := fun w pins s I => h.run w pins s σ H Q I q
theorem RunA.of {t : TA} {Q : List V → Hp → Prop} (h : PA X es t) (q : t σ H Q) : RunA X es σ H Q := fun pos pins s I => h.run pos pins s σ H Q I q
theorem RunS.of {t : TS} {D : Ends} (h : PS X st t) (q : t D σ H) : RunS X st D σ H := fun pins s I => h.run pins s σ H D I q
theorem RunB.of {t : TS} {D : Ends} (h : PSs X sts t) (q : t D σ H) : RunB X sts D σ H := fun pins s I => h.run pins s σ H D I q
theorem Run.mono {Q Q' : VK} (h : Run X e σ H Q) (k : ∀ v H', Q v H' → Q' v H') : Run X e σ H Q' := fun pins s I =>
  wpAny_mono (h pins s I) (fun _ _ ⟨v, H', I', r, q⟩ => ⟨v, H', I', r, k v H' q⟩) fun _ _ x => x
theorem RunT.mono {Q Q' : Bool → Hp → Prop} (h : RunT X e σ H Q) (k : ∀ v H', Q v H' → Q' v H') : RunT X e σ H Q' := fun pins s I =>
  wpAny_mono (h pins s I) (fun _ _ ⟨H', I', q⟩ => ⟨H', I', k _ H' q⟩) fun _ _ x => x
theorem RunA.mono {Q Q' : List V → Hp → Prop} (h : RunA X es σ H Q) (k : ∀ v H', Q v H' → Q' v H') : RunA X es σ H Q' := fun pos pins s I =>
  wpAny_mono (h pos pins s I) (fun _ _ ⟨vs, H', I', r, q⟩ => ⟨vs, H', I', r, k _ H' q⟩) fun _ _ x => x
theorem SP.mono {pins : List (Addr × Obj)} {D D' : Ends} {f : Flow} {s : Shared} (h : SP X pins D f s) (k1 : ∀ σ H, D.nx σ H → D'.nx σ H) (k2 : ∀ v H, D.rt v H → D'.rt v H) (k3 : ∀ σ H, D.bk σ H → D'.bk σ H) (k4 : ∀ σ H, D.ct σ H → D'.ct σ H) : SP X pins D' f s := by
  cases f with
  | next => obtain ⟨a, b, c, d⟩ := h; exact ⟨a, b, c, k1 _ _ d⟩
  | brk => obtain ⟨a, b, c, d⟩ := h; exact ⟨a, b, c, k3 _ _ d⟩
  | cont => obtain ⟨a, b, c, d⟩ := h; exact ⟨a, b, c, k4 _ _ d⟩
  | ret u => obtain ⟨v, a, b, c, r, d⟩ := h; exact ⟨v, a, b, c, r, k2 _ _ d⟩
theorem RunS.mono {D D' : Ends} (h : RunS X st D σ H) (k1 : ∀ σ H, D.nx σ H → D'.nx σ H) (k2 : ∀ v H, D.rt v H → D'.rt v H) (k3 : ∀ σ H, D.bk σ H → D'.bk σ H) (k4 : ∀ σ H, D.ct σ H → D'.ct σ H) : RunS X st D' σ H := fun pins s I =>
  wpAny_mono (h pins s I) (fun _ _ q => SP.mono q k1 k2 k3 k4) fun _ _ x => x
theorem RunB.mono {D D' : Ends} (h : RunB X sts D σ H) (k1 : ∀ σ H, D.nx σ H → D'.nx σ H) (k2 : ∀ v H, D.rt v H → D'.rt v H) (k3 : ∀ σ H, D.bk σ H → D'.bk σ H) (k4 : ∀ σ H, D.ct σ H → D'.ct σ H) : RunB X sts D' σ H := fun pins s I =>
  wpAny_mono (h pins s I) (fun _ _ q => SP.mono q k1 k2 k3 k4) fun _ _ x => x
end
structure Exn where
  cls : Value
  fs : List (Str × D)
structure Cy extends L2.Cx where
  F0 : Hp
  T : Hp
  QX : Exn → Env2 → GD → Prop
instance : Coe Cy L2.Cx := ⟨Cy.toCx⟩
instance : CoeHead Cy L2.Cx := ⟨Cy.toCx⟩
structure Lk (X : Cy) (F0 T : Hp) : Prop where
  t : Ex X.T T
  f : Ex X.F0 F0
  ft : ∀ a o, F0 a = some o → X.F0 a = some o ∨ X.T a = none
theorem none_of {A B : Hp} (e : Ex A B) {a : Addr} (h : B a = none) : A a = none := by
  cases q : A a with
  | none => rfl
  | some o => rw [e a o q] at h; cases h
theorem Lk.base {X : Cy} {F0 T F : Hp} {G : GD} {H : Hp} (lk : Lk X F0 T) (B : Bas X.K F0 T F G H) : Lk X F T :=
  ⟨lk.t, lk.f.trans B.ff, fun a o h => (B.ft a o h).elim (fun z => lk.ft a o z) fun z => .inr (none_of lk.t z)⟩
theorem Lk.ext {X : Cy} {F0 T T' : Hp} (lk : Lk X F0 T) (e : Ex T T') : Lk X F0 T' := ⟨lk.t.trans e, lk.f, lk.ft⟩
theorem Lk.bas {X : Cy} {K : PySem.W.Frag} {F0 T F : Hp} {G : GD} {H : Hp} (lk : Lk X F0 T) (B : Bas K F0 T F G H) : Bas K X.F0 X.T F G H :=
  ⟨lk.f.trans B.ff, fun a o h => (B.ft a o h).elim (fun z => lk.ft a o z) fun z => .inr (none_of lk.t z), B.fh, B.gh, B.fg, fun a o h => none_of lk.t (B.gt a o h), lk.t.trans B.tk⟩
theorem Lk.sta {X : Cy} {K : PySem.W.Frag} {F0 T F : Hp} {G : GD} {H : Hp} {r : Env2} {σ : L2.St} (lk : Lk X F0 T) (S : Sta K F0 T F G H r σ) : Sta K X.F0 X.T F G H r σ := by
  refine ⟨lk.bas S.bas, S.len, fun i s e => ?_, S.ap⟩
  have h := S.sl i s e
  cases s with
  | no => trivial
  | sh d => exact h
  | own d =>
    obtain ⟨p, h1, h2, h3, h4, h5⟩ := h
    exact ⟨p, h1, h2, h3, h4, none_of lk.t h5⟩
/-- an exception (its class, its dict) as data -/
def ExOk (K : PySem.W.Frag) (F : Hp) (cls : Value) (d : Option Addr) (x : Exn) : Prop :=
  x.cls = cls ∧ ((d = none ∧ x.fs = []) ∨ ∃ a vs, d = some a ∧ F a = some (.xd ((x.fs.map (·.1)).zip vs)) ∧ RepL K F (x.fs.map (·.2)) vs)
theorem ExOk.mono {K : PySem.W.Frag} {F F' : Hp} {cls : Value} {d : Option Addr} {x : Exn} (e : Ex F F') (h : ExOk K F cls d x) : ExOk K F' cls d x := by
  obtain ⟨h1, ⟨h2, h3⟩ | ⟨a, vs, h2, h3, h4⟩⟩ := h
  · exact ⟨h1, .inl ⟨h2, h3⟩⟩
  · exact ⟨h1, .inr ⟨a, vs, h2, e _ _ h3, RepL.mono e _ _ h4⟩⟩
/-- the wish of a context -/
def Cy.WX (X : Cy) : L2.WX := fun cls d σ H => ∃ r G F x, Sta X.K X.F0 X.T F G H r σ ∧ ExOk X.K F cls d x ∧ X.QX x r G
def Cy.Tk (X : Cy) : Prop := L2.Takes X.toCx X.WX
def PostE (K : PySem.W.Frag) (F0 T F : Hp) (σ : L2.St) (Q : Res → Env2 → GD → Prop) : VK := fun v H' =>
  ∃ x r' G' F', Ex F F' ∧ Sta K F0 T F' G' H' r' σ ∧ ResOk K T F' G' H' r' σ x v ∧ Q x r' G'
def WE (X : Cy) (e : Expr) (r : Env2) (G : GD) (Q : Res → Env2 → GD → Prop) : Prop :=
  ∀ (F0 T F H : Hp) (σ : L2.St), Lk X F0 T → Sta X.K F0 T F G H r σ → Run X e σ H (PostE X.K F0 T F σ Q)
def PostT (K : PySem.W.Frag) (F0 T F : Hp) (σ : L2.St) (Q : Bool → Env2 → GD → Prop) : Bool → Hp → Prop := fun b H' =>
  ∃ r' G' F', Ex F F' ∧ Sta K F0 T F' G' H' r' σ ∧ Q b r' G'
def WT (X : Cy) (e : Expr) (r : Env2) (G : GD) (Q : Bool → Env2 → GD → Prop) : Prop :=
  ∀ (F0 T F H : Hp) (σ : L2.St), Lk X F0 T → Sta X.K F0 T F G H r σ → RunT X e σ H (PostT X.K F0 T F σ Q)
def WW (X : Cy) (e : Expr) (r : Env2) (G : GD) (Q : Bool → Env2 → GD → Prop) : Prop :=
  ∀ (F0 T F H : Hp) (σ : L2.St), Lk X F0 T → Sta X.K F0 T F G H r σ → RunW X e σ H (PostT X.K F0 T F σ Q)
def PostA (K : PySem.W.Frag) (F0 T F : Hp) (σ : L2.St) (Q : List D → Env2 → GD → Prop) : List V → Hp → Prop := fun vs H' =>
  ∃ ds r' G' F', Ex F F' ∧ Sta K F0 T F' G' H' r' σ ∧ RepL K F' ds vs ∧ Q ds r' G'
def WA (X : Cy) (es : List Expr) (r : Env2) (G : GD) (Q : List D → Env2 → GD → Prop) : Prop :=
  ∀ (F0 T F H : Hp) (σ : L2.St), Lk X F0 T → Sta X.K F0 T F G H r σ → RunA X es σ H (PostA X.K F0 T F σ Q)
structure EndsD where
  nx : Env2 → GD → Prop
  rt : Res → GD → Prop
  bk : Env2 → GD → Prop := fun _ _ => False
  ct : Env2 → GD → Prop := fun _ _ => False
def PostN (K : PySem.W.Frag) (F0 T : Hp) (Q : Env2 → GD → Prop) : L2.St → Hp → Prop := fun σ' H' => ∃ r' G' F', Sta K F0 T F' G' H' r' σ' ∧ Q r' G'
def PostR (K : PySem.W.Frag) (F0 T : Hp) (Q : Res → GD → Prop) : VK := fun v H' => ∃ x G' F', Bas K F0 T F' G' H' ∧ RtOk K T F' G' H' x v ∧ Q x G'
def EndsD.at (K : PySem.W.Frag) (F0 T : Hp) (D : EndsD) : Ends := { nx := PostN K F0 T D.nx, rt := PostR K F0 T D.rt, bk := PostN K F0 T D.bk, ct := PostN K F0 T D.ct }
def WS (X : Cy) (st : Stmt) (r : Env2) (G : GD) (D : EndsD) : Prop :=
  ∀ (F0 T F H : Hp) (σ : L2.St), Lk X F0 T → Sta X.K F0 T F G H r σ → RunS X st (D.at X.K F0 T) σ H
def WB (X : Cy) (sts : List Stmt) (r : Env2) (G : GD) (D : EndsD) : Prop :=
  ∀ (F0 T F H : Hp) (σ : L2.St), Lk X F0 T → Sta X.K F0 T F G H r σ → RunB X sts (D.at X.K F0 T) σ H
/-- freezing a result -/
def fz (r : Env2) : Res → Option (D × Env2)
  | .sh d => some (d, r)
  | .fr d => if isDic d then none else some (d, r)
  | .pk i => match r[i]? with
    | some (.own d) => if isDic d then none else some (d, r.set i (.sh d))
    | _ => none
section
variable {X : Cy} {e a b c : Expr} {es : List Expr} {st : Stmt} {sts rest : List Stmt} {r : Env2} {G : GD} {pos : Pos}
theorem Sta.fz {K : PySem.W.Frag} {F0 T F : Hp} {G : GD} {H : Hp} {r r2 : Env2} {σ : L2.St} {x : Res} {v : V} {d : D} (S : Sta K F0 T F G H r σ) (h : ResOk K T F G H r σ x v) (e : fz r x = some (d, r2)) : ∃ F', Ex F F' ∧ Sta K F0 T F' G H r2 σ ∧ Rep K F' d v := by
  cases x with
  | sh d' => cases e; exact ⟨F, Ex.refl _, S, h⟩
  | fr d' =>
    have e' : (if isDic d' then none else some (d', r)) = some (d, r2) := e
    cases hD : isDic d' with
    | true => rw [hD] at e'; cases e'
    | false =>
      rw [hD] at e'
      cases e'
      exact S.frzRes hD h
  | pk i =>
    obtain ⟨h1, d', h2⟩ := h
    have e' : (match r[i]? with | some (.own d) => if isDic d then none else some (d, r.set i (.sh d)) | _ => none) = some (d, r2) := e
    rw [h2] at e'
    dsimp only at e'
    have hD : isDic d' = false := by
      cases hD : isDic d' with
      | true => rw [hD] at e'; cases e'
      | false => rfl
    rw [hD] at e'
    cases e'
    obtain ⟨F', k1, k2, v', k3, k4⟩ := S.frzSlot hD h2
    rw [h1] at k3
    cases k3
    exact ⟨F', k1, k2, k4⟩
theorem WE.mono {Q Q' : Res → Env2 → GD → Prop} (h : WE X e r G Q) (k : ∀ x r' G', Q x r' G' → Q' x r' G') : WE X e r G Q' := fun F0 T F H σ lk S =>
  (h F0 T F H σ lk S).mono fun _ _ ⟨x, r', G', F', a, b, c, q⟩ => ⟨x, r', G', F', a, b, c, k _ _ _ q⟩
theorem WT.mono {Q Q' : Bool → Env2 → GD → Prop} (h : WT X e r G Q) (k : ∀ x r' G', Q x r' G' → Q' x r' G') : WT X e r G Q' := fun F0 T F H σ lk S =>
  (h F0 T F H σ lk S).mono fun _ _ ⟨r', G', F', a, b, q⟩ => ⟨r', G', F', a, b, k _ _ _ q⟩
theorem WB.mono {D D' : EndsD} (h : WB X sts r G D) (k1 : ∀ r G, D.nx r G → D'.nx r G) (k2 : ∀ x G, D.rt x G → D'.rt x G) (k3 : ∀ r G, D.bk r G → D'.bk r G) (k4 : ∀ r G, D.ct r G → D'.ct r G) : WB X sts r G D' := fun F0 T F H σ lk S =>
  (h F0 T F H σ lk S).mono (fun _ _ ⟨r', G', F', a, q⟩ => ⟨r', G', F', a, k1 _ _ q⟩) (fun _ _ ⟨x, G', F', a, b, q⟩ => ⟨x, G', F', a, b, k2 _ _ q⟩) (fun _ _ ⟨r', G', F', a, q⟩ => ⟨r', G', F', a, k3 _ _ q⟩) (fun _ _ ⟨r', G', F', a, q⟩ => ⟨r', G', F', a, k4 _ _ q⟩)
theorem WB.weak {r' : Env2} {D : EndsD} (w : Wk r r') (h : WB X sts r' G D) : WB X sts r G D := fun F0 T F H σ lk S => h F0 T F H σ lk (S.weak w)
theorem we_const {v : V} {d : D} {Q : Res → Env2 → GD → Prop} (h : PE X e (tC v)) (hd : ∀ K F, Rep K F d v) (q : Q (.sh d) r G) : WE X e r G Q := fun F0 T F H σ lk S =>
  Run.of h ⟨.sh d, r, G, F, Ex.refl _, S, hd _ _, q⟩
theorem we_int {i : Int} {j} {Q : Res → Env2 → GD → Prop} (q : Q (.sh (.int i)) r G) : WE X (.Constant (.int i) j pos) r G Q := we_const (d := .int i) pe_int (fun _ _ => rfl) q
theorem we_bl {i : Bool} {j} {Q : Res → Env2 → GD → Prop} (q : Q (.sh (.bl i)) r G) : WE X (.Constant (.bool i) j pos) r G Q := we_const (d := .bl i) pe_bl (fun _ _ => rfl) q
theorem we_str {i : Str} {j} {Q : Res → Env2 → GD → Prop} (q : Q (.sh (.str i)) r G) : WE X (.Constant (.str i) j pos) r G Q := we_const (d := .str i) pe_str (fun _ _ => rfl) q
theorem we_non {j} {Q : Res → Env2 → GD → Prop} (q : Q (.sh .non) r G) : WE X (.Constant .none j pos) r G Q := we_const (d := .non) pe_non (fun _ _ => rfl) q
/-- what reading a slot gives -/
def rdS (r : Env2) (i : Nat) : Option Res := match r[i]? with
  | some (.sh d) => some (.sh d)
  | some (.own _) => some (.pk i)
  | _ => none
theorem we_var (i : Nat) {x : Str} {y : Res} {Q : Res → Env2 → GD → Prop} (hN : X.N[i]? = some x) (hv : Vis X.env.scope x) (hy : rdS r i = some y) (q : Q y r G) (hd : (x == ("__debug__" : Str)) = false := by decide) (hcd : (x == ("__classdict__" : Str)) = false := by decide) :
    WE X (.Name x pos) r G Q := fun F0 T F H σ lk S => by
  refine Run.of (pe_var hN hv hd hcd) ?_
  cases hr : r[i]? with
  | none => unfold rdS at hy; rw [hr] at hy; cases hy
  | some s =>
    unfold rdS at hy
    rw [hr] at hy
    cases s with
    | no => cases hy
    | sh d =>
      cases hy
      obtain ⟨v, h1, h2⟩ := S.slot hr
      exact ⟨v, h1, .sh d, r, G, F, Ex.refl _, S, h2, q⟩
    | own d =>
      cases hy
      obtain ⟨p, h1, h2⟩ := S.ownS hr
      exact ⟨.ref p, h1, .pk i, r, G, F, Ex.refl _, S, ⟨h1, d, hr⟩, q⟩
/-- a constant of the module -/
theorem we_globI {x : Str} {i : Int} {t : Tok} {Q : Res → Env2 → GD → Prop} (hg : Gl X x) (hm : X.mg x = some (.int i t)) (q : Q (.sh (.int i)) r G) (hd : (x == ("__debug__" : Str)) = false := by decide) : WE X (.Name x pos) r G Q := we_const (v := .int i) (d := .int i) (pe_glob hg hm ⟨t, rfl⟩ hd) (fun _ _ => rfl) q
theorem we_globS {x : Str} {i : Str} {t : Tok} {Q : Res → Env2 → GD → Prop} (hg : Gl X x) (hm : X.mg x = some (.str i t)) (q : Q (.sh (.str i)) r G) (hd : (x == ("__debug__" : Str)) = false := by decide) : WE X (.Name x pos) r G Q := we_const (v := .str i) (d := .str i) (pe_glob hg hm ⟨t, rfl⟩ hd) (fun _ _ => rfl) q
/-- a two-place operation on viewed data -/
def OpW (X : Cy) (f : Value → Value → Sem Value) (da db : D) (Q : Res → Prop) : Prop :=
  ∀ (F0 T F : Hp) (G : GD) (H : Hp) (r : Env2) (σ : L2.St) (va vb : V), Sta X.K F0 T F G H r σ → Vw X.K F H da va → Vw X.K F H db vb →
    ∃ rr : R2, OpR X f rr ∧ rr va vb H (fun v H' => ∃ x F', Ex F F' ∧ Sta X.K F0 T F' G H' r σ ∧ ResOk X.K T F' G H' r σ x v ∧ Q x)
def opU (X : Cy) (f : Value → Value → Sem Value) : R2 := fun x y H Q => ∃ rr : R2, OpR X f rr ∧ rr x y H Q
theorem opU_ok (f : Value → Value → Sem Value) : OpR X f (opU X f) := fun pins s σ H x y v u Q I rx ry ⟨rr, h1, h2⟩ => h1 pins s σ H x y v u Q I rx ry h2
/-- a held result, its view at a later state -/
theorem hold {K : PySem.W.Frag} {F0 T F : Hp} {G : GD} {H : Hp} {r : Env2} {σ : L2.St} {x : Res} {v : V} (S : Sta K F0 T F G H r σ) (h : ResOk K T F G H r σ x v) :
    ∃ F1, Ex F F1 ∧ Sta K F0 T F1 G H r σ ∧ ∀ (F2 : Hp) (G2 : GD) (H2 : Hp) (r2 : Env2) (d : D), Ex F1 F2 → Sta K F0 T F2 G2 H2 r2 σ → VwR r2 G2 x d → Vw K F2 H2 d v := by
  have red : ∀ (F2 : Hp) (G2 : GD) (H2 : Hp) (r2 : Env2) (d : D), Sta K F0 T F2 G2 H2 r2 σ → (vw r2 x = some d → Vw K F2 H2 d v) → VwR r2 G2 x d → Vw K F2 H2 d v := fun F2 G2 H2 r2 d S2 k e => by
    rcases e with e | ⟨a, rfl, hG⟩
    · exact k e
    · cases (show v = .ref a from h)
      exact .inr ⟨a, rfl, S2.bas.gh _ _ hG⟩
  cases x with
  | sh d => exact ⟨F, Ex.refl _, S, fun F2 G2 H2 r2 d' ex S2 e => red F2 G2 H2 r2 d' S2 (fun e => by cases e; exact .inl (Rep.mono ex _ _ h)) e⟩
  | fr d =>
    cases hD : isDic d with
    | true =>
      refine ⟨F, Ex.refl _, S, fun F2 G2 H2 r2 d' ex S2 e => red F2 G2 H2 r2 d' S2 (fun e => ?_) e⟩
      have e' : (if isDic d then none else some d) = some d' := e
      rw [hD] at e'; cases e'
    | false =>
      obtain ⟨F1, k1, k2, k3⟩ := S.frzRes hD h
      refine ⟨F1, k1, k2, fun F2 G2 H2 r2 d' ex S2 e => red F2 G2 H2 r2 d' S2 (fun e => ?_) e⟩
      have e' : (if isDic d then none else some d) = some d' := e
      rw [hD] at e'; cases e'
      exact .inl (Rep.mono ex _ _ k3)
  | pk i =>
    refine ⟨F, Ex.refl _, S, fun F2 G2 H2 r2 d' ex S2 e => red F2 G2 H2 r2 d' S2 (fun e => ?_) e⟩
    obtain ⟨h1, d, h2⟩ := h
    have e' : (match r2[i]? with | some (.own d) => some d | some (.sh d) => some d | _ => none) = some d' := e
    cases hr : r2[i]? with
    | none => rw [hr] at e'; cases e'
    | some s =>
      rw [hr] at e'
      cases s with
      | no => cases e'
      | sh d2 =>
        cases e'
        obtain ⟨v', q1, q2⟩ := S2.slot hr
        rw [h1] at q1; cases q1
        exact .inl q2
      | own d2 =>
        cases e'
        obtain ⟨p, q1, q2, _⟩ := S2.ownS hr
        rw [h1] at q1; cases q1
        exact .inr ⟨p, rfl, q2⟩
/-- two operands, then an operation -/
theorem two {f : Value → Value → Sem Value} {Q : Res → Env2 → GD → Prop} {F0 T F H : Hp} {σ : L2.St} (lk : Lk X F0 T) (S : Sta X.K F0 T F G H r σ)
    (h : WE X a r G fun x r1 G1 => WE X b r1 G1 fun y r2 G2 => ∃ da db, VwR r2 G2 x da ∧ VwR r2 G2 y db ∧ OpW X f da db fun z => Q z r2 G2) :
    tOp (opU X f) (Run X a) (Run X b) σ H (PostE X.K F0 T F σ Q) := by
  refine (h F0 T F H σ lk S).mono fun va H1 ⟨x, r1, G1, F1, e1, S1, k1, h1⟩ => ?_
  obtain ⟨F1', e1', S1', hv⟩ := hold S1 k1
  refine (h1 F0 T F1' H1 σ lk S1').mono fun vb H2 ⟨y, r2, G2, F2, e2, S2, k2, da, db, q1, q2, q3⟩ => ?_
  obtain ⟨rr, h3, h4⟩ := q3 F0 T F2 G2 H2 r2 σ va vb S2 (hv F2 G2 H2 r2 da e2 S2 q1) (S2.viewR k2 q2)
  have post : (fun v H' => ∃ z F', Ex F2 F' ∧ Sta X.K F0 T F' G2 H' r2 σ ∧ ResOk X.K T F' G2 H' r2 σ z v ∧ Q z r2 G2) = (fun v H' => ∃ z F', Ex F2 F' ∧ Sta X.K F0 T F' G2 H' r2 σ ∧ ResOk X.K T F' G2 H' r2 σ z v ∧ Q z r2 G2) := rfl
  refine ⟨fun u w H Q' => rr u w H (fun v H' => ∃ z F', Ex F2 F' ∧ Sta X.K F0 T F' G2 H' r2 σ ∧ ResOk X.K T F' G2 H' r2 σ z v ∧ Q z r2 G2) ∧ ∀ v H', (∃ z F', Ex F2 F' ∧ Sta X.K F0 T F' G2 H' r2 σ ∧ ResOk X.K T F' G2 H' r2 σ z v ∧ Q z r2 G2) → Q' v H', fun pins s σ H x y v u Q' I rx ry ⟨q, m⟩ => ?_, h4, fun v H' ⟨z, F', m1, m2, m3, m4⟩ => ⟨z, r2, G2, F', ((e1.trans e1').trans e2).trans m1, m2, m3, m4⟩⟩
  exact wpAny_mono (h3 pins s σ H x y v u _ I rx ry q) (fun _ _ ⟨v, H', I', rl, q⟩ => ⟨v, H', I', rl, m v H' q⟩) fun _ _ x => x
theorem we_bin {op : Operator} {Q : Res → Env2 → GD → Prop}
    (h : WE X a r G fun x r1 G1 => WE X b r1 G1 fun y r2 G2 => ∃ da db, VwR r2 G2 x da ∧ VwR r2 G2 y db ∧ OpW X (binaryOp op) da db fun z => Q z r2 G2) : WE X (.BinOp a op b pos) r G Q :=
  fun _ _ _ _ _ lk S => Run.of (pe_op (opU_ok _) peR peR) (two lk S h)
theorem we_cmp {op : CmpOp} {Q : Res → Env2 → GD → Prop} (hm : behindInMarks op b = false)
    (h : WE X a r G fun x r1 G1 => WE X b r1 G1 fun y r2 G2 => ∃ da db, VwR r2 G2 x da ∧ VwR r2 G2 y db ∧ OpW X (compareOp op) da db fun z => Q z r2 G2) : WE X (.Compare a [op] [b] pos) r G Q :=
  fun _ _ _ _ _ lk S => Run.of (pe_cmpR (opU_ok _) peR peR hm) (two lk S h)
/-- the result is a truth value -/
def isB (Q : Bool → Env2 → GD → Prop) : Res → Env2 → GD → Prop := fun x r G => ∃ c, x = .sh (.bl c) ∧ Q c r G
theorem postB {K : PySem.W.Frag} {F0 T F : Hp} {σ : L2.St} {Q : Bool → Env2 → GD → Prop} {v : V} {H' : Hp} (h : PostE K F0 T F σ (isB Q) v H') : ∃ c, v = .bl c ∧ PostT K F0 T F σ Q c H' := by
  obtain ⟨x, r', G', F', k1, k2, k3, c, rfl, k4⟩ := h
  exact ⟨c, k3, r', G', F', k1, k2, k4⟩
theorem wt_cmp {op : CmpOp} {Q : Bool → Env2 → GD → Prop} (hm : behindInMarks op b = false)
    (h : WE X a r G fun x r1 G1 => WE X b r1 G1 fun y r2 G2 => ∃ da db, VwR r2 G2 x da ∧ VwR r2 G2 y db ∧ OpW X (compareOp op) da db fun z => isB Q z r2 G2) : WT X (.Compare a [op] [b] pos) r G Q :=
  fun F0 T F H σ lk S => RunT.of (pt_cmpR (opU_ok _) peR peR hm) (by
    have q := two (Q := isB Q) lk S h
    refine Run.mono q fun va H1 q1 => Run.mono q1 fun vb H2 ⟨rr, h3, h4⟩ => ⟨fun u w H Q' => rr u w H (PostE X.K F0 T F σ (isB Q)) ∧ ∀ v H', PostE X.K F0 T F σ (isB Q) v H' → Q' v H', fun pins s σ H x y v u Q' I rx ry ⟨q, m⟩ => ?_, h4, fun v H' z => postB z⟩
    exact wpAny_mono (h3 pins s σ H x y v u _ I rx ry q) (fun _ _ ⟨v, H', I', rl, q⟩ => ⟨v, H', I', rl, m v H' q⟩) fun _ _ x => x)
/-- a value as a test -/
theorem wt_val {Q : Bool → Env2 → GD → Prop} (he : ∀ whole, isTrue e X.env whole = (do let v ← whole; standAt e.pos; holding [v] (truthy v))) (h : WE X e r G (isB Q)) : WT X e r G Q :=
  fun F0 T F H σ lk S => RunT.of (pt_val peR he) ((h F0 T F H σ lk S).mono fun v H' q => postB q)
theorem wt_not {Q : Bool → Env2 → GD → Prop} (h : WT X a r G fun c => Q (!c)) : WT X (.UnaryOp .Not a pos) r G Q :=
  fun F0 T F H σ lk S => RunT.of (pt_not ptR) (h F0 T F H σ lk S)
theorem wt_w {Q : Bool → Env2 → GD → Prop} (h : WW X e r G Q) : WT X e r G Q := fun F0 T F H σ lk S pins s I => h F0 T F H σ lk S _ pins s I
theorem ww_and1 {Q : Bool → Env2 → GD → Prop} (h : WT X a r G Q) : WW X (.BoolOp .And [a] pos) r G Q := fun F0 T F H σ lk S => RunW.of (pw_and1 ptR) (h F0 T F H σ lk S)
theorem ww_or1 {Q : Bool → Env2 → GD → Prop} (h : WT X a r G Q) : WW X (.BoolOp .Or [a] pos) r G Q := fun F0 T F H σ lk S => RunW.of (pw_or1 ptR) (h F0 T F H σ lk S)
theorem ww_and {Q : Bool → Env2 → GD → Prop} (h : WT X a r G fun c r1 G1 => (c = true → WW X (.BoolOp .And (b :: es) pos) r1 G1 Q) ∧ (c = false → Q false r1 G1)) : WW X (.BoolOp .And (a :: b :: es) pos) r G Q := fun F0 T F H σ lk S =>
  RunW.of (pw_and ptR pwR) ((h F0 T F H σ lk S).mono fun c H1 ⟨r1, G1, F1, e1, S1, q1, q2⟩ => by
    cases c with
    | true => rw [if_pos rfl]; exact fun w pins s I => wpAny_mono (q1 rfl F0 T F1 H1 σ lk S1 w pins s I) (fun _ _ ⟨H', I', r', G', F', k1, k2, k3⟩ => ⟨H', I', r', G', F', e1.trans k1, k2, k3⟩) fun _ _ x => x
    | false => rw [if_neg Bool.false_ne_true]; exact ⟨r1, G1, F1, e1, S1, q2 rfl⟩)
theorem ww_or {Q : Bool → Env2 → GD → Prop} (h : WT X a r G fun c r1 G1 => (c = false → WW X (.BoolOp .Or (b :: es) pos) r1 G1 Q) ∧ (c = true → Q true r1 G1)) : WW X (.BoolOp .Or (a :: b :: es) pos) r G Q := fun F0 T F H σ lk S =>
  RunW.of (pw_or ptR pwR) ((h F0 T F H σ lk S).mono fun c H1 ⟨r1, G1, F1, e1, S1, q1, q2⟩ => by
    cases c with
    | true => rw [if_pos rfl]; exact ⟨r1, G1, F1, e1, S1, q2 rfl⟩
    | false => rw [if_neg Bool.false_ne_true]; exact fun w pins s I => wpAny_mono (q1 rfl F0 T F1 H1 σ lk S1 w pins s I) (fun _ _ ⟨H', I', r', G', F', k1, k2, k3⟩ => ⟨H', I', r', G', F', e1.trans k1, k2, k3⟩) fun _ _ x => x)
/-- and, or, not as values (truth values) -/
theorem PostE.ext {K : PySem.W.Frag} {F0 T F F1 : Hp} {σ : L2.St} {Q : Res → Env2 → GD → Prop} (e : Ex F F1) {v : V} {H : Hp} (h : PostE K F0 T F1 σ Q v H) : PostE K F0 T F σ Q v H := by
  obtain ⟨x, r', G', F', k1, k2⟩ := h
  exact ⟨x, r', G', F', e.trans k1, k2⟩
theorem we_one {op} {Q : Res → Env2 → GD → Prop} (h : WE X a r G Q) : WE X (.BoolOp op [a] pos) r G Q := fun F0 T F H σ lk S => Run.of (pe_one peR) (h F0 T F H σ lk S)
theorem we_and {Q : Res → Env2 → GD → Prop} (h : WE X a r G (isB fun c r1 G1 => (c = true → WE X (.BoolOp .And (b :: es) pos) r1 G1 Q) ∧ (c = false → Q (.sh (.bl false)) r1 G1))) : WE X (.BoolOp .And (a :: b :: es) pos) r G Q := fun F0 T F H σ lk S =>
  Run.of (pe_and peR peR) ((h F0 T F H σ lk S).mono fun v H1 q => by
    obtain ⟨c, rfl, r1, G1, F1, e1, S1, q1, q2⟩ := postB q
    refine ⟨c, rfl, ?_⟩
    cases c with
    | true => rw [if_pos rfl]; exact (q1 rfl F0 T F1 H1 σ lk S1).mono fun _ _ z => z.ext e1
    | false => rw [if_neg Bool.false_ne_true]; exact ⟨.sh (.bl false), r1, G1, F1, e1, S1, rfl, q2 rfl⟩)
theorem we_or {Q : Res → Env2 → GD → Prop} (h : WE X a r G (isB fun c r1 G1 => (c = false → WE X (.BoolOp .Or (b :: es) pos) r1 G1 Q) ∧ (c = true → Q (.sh (.bl true)) r1 G1))) : WE X (.BoolOp .Or (a :: b :: es) pos) r G Q := fun F0 T F H σ lk S =>
  Run.of (pe_or peR peR) ((h F0 T F H σ lk S).mono fun v H1 q => by
    obtain ⟨c, rfl, r1, G1, F1, e1, S1, q1, q2⟩ := postB q
    refine ⟨c, rfl, ?_⟩
    cases c with
    | true => rw [if_pos rfl]; exact ⟨.sh (.bl true), r1, G1, F1, e1, S1, rfl, q2 rfl⟩
    | false => rw [if_neg Bool.false_ne_true]; exact (q1 rfl F0 T F1 H1 σ lk S1).mono fun _ _ z => z.ext e1)
theorem we_not {Q : Res → Env2 → GD → Prop} (h : WE X a r G (isB fun c r1 G1 => Q (.sh (.bl (!c))) r1 G1)) : WE X (.UnaryOp .Not a pos) r G Q := fun F0 T F H σ lk S =>
  Run.of (pe_not peR) ((h F0 T F H σ lk S).mono fun v H1 q => by
    obtain ⟨c, rfl, r1, G1, F1, e1, S1, q1⟩ := postB q
    exact ⟨c, rfl, .sh (.bl (!c)), r1, G1, F1, e1, S1, rfl, q1⟩)
theorem we_ifExp {Q : Res → Env2 → GD → Prop} (h : WT X c r G fun d r1 G1 => (d = true → WE X a r1 G1 Q) ∧ (d = false → WE X b r1 G1 Q)) : WE X (.IfExp c a b pos) r G Q := fun F0 T F H σ lk S =>
  Run.of (pe_ifExp ptR peR peR) ((h F0 T F H σ lk S).mono fun d H1 ⟨r1, G1, F1, e1, S1, q1, q2⟩ => by
    cases d with
    | true => rw [if_pos rfl]; exact (q1 rfl F0 T F1 H1 σ lk S1).mono fun _ _ z => z.ext e1
    | false => rw [if_neg Bool.false_ne_true]; exact (q2 rfl F0 T F1 H1 σ lk S1).mono fun _ _ z => z.ext e1)
theorem wa_nil {Q : List D → Env2 → GD → Prop} (q : Q [] r G) : WA X [] r G Q := fun F0 T F H σ lk S => RunA.of pa_nil ⟨[], r, G, F, Ex.refl _, S, rfl, q⟩
theorem PostA.ext {K : PySem.W.Frag} {F0 T F F1 : Hp} {σ : L2.St} {Q : List D → Env2 → GD → Prop} (e : Ex F F1) {v : List V} {H : Hp} (h : PostA K F0 T F1 σ Q v H) : PostA K F0 T F σ Q v H := by
  obtain ⟨x, r', G', F', k1, k2⟩ := h
  exact ⟨x, r', G', F', e.trans k1, k2⟩
theorem wa_cons {Q : List D → Env2 → GD → Prop} (h : WE X e r G fun x r1 G1 => ∃ d r2, fz r1 x = some (d, r2) ∧ WA X es r2 G1 fun ds r3 G3 => Q (d :: ds) r3 G3)
    (hs : starEach (e :: es) X.env = (false, eval e X.env) :: starEach es X.env := by rfl) : WA X (e :: es) r G Q := fun F0 T F H σ lk S =>
  RunA.of (pa_cons peR paR hs) ((h F0 T F H σ lk S).mono fun v H1 ⟨x, r1, G1, F1, e1, S1, k1, d, r2, q1, q2⟩ => by
    obtain ⟨F2, e2, S2, rp⟩ := S1.fz k1 q1
    refine (q2 F0 T F2 H1 σ lk S2).mono fun vs H3 ⟨ds, r3, G3, F3, e3, S3, k3, q3⟩ => ?_
    exact ⟨d :: ds, r3, G3, F3, (e1.trans e2).trans e3, S3, ⟨v, vs, rfl, Rep.mono e3 _ _ rp, k3⟩, q3⟩)
/-- how many items a display may have -/
abbrev LIM : Nat := 16777216
theorem lim_ok {n : Nat} (h : n ≤ LIM) : n ≤ sizeLine := by rw [sizeLine_eq]; exact h
theorem lim_of {n : Nat} (h : n ≤ sizeLine) : n ≤ LIM := by rw [sizeLine_eq] at h; exact h
theorem lim_lt {n : Nat} (h : n < LIM) : n < sizeLine := by rw [sizeLine_eq]; exact h
/-- what lies in a heap is not too long -/
def BL (K : PySem.W.Frag) (H : Hp) : Prop := (∀ a xs, SqL K H a xs → xs.length ≤ LIM) ∧ (∀ a xs, SqT K H a xs → xs.length ≤ LIM) ∧ ∀ a kvs, Rd H a (.dK kvs) → kvs.length ≤ LIM
theorem bl_of {X : Cx} {pins : List (Addr × Obj)} {σ : L2.St} {H : Hp} {s : Shared} (I : Inv X pins σ H s) : BL X.K H := by
  refine ⟨fun a xs h => ?_, fun a xs h => ?_, fun a kvs h => ?_⟩
  · obtain ⟨_, _, _, z⟩ := I.list h
    exact lim_of z
  · obtain ⟨_, _, _, z⟩ := I.tuple h
    exact lim_of z
  · rcases h with h | ⟨o, h⟩
    · exact lim_of (I.hok _ _ h).1
    · exact lim_of (I.hok _ _ h).2.1
theorem Run.bl {X : Cx} {e : Expr} {σ : L2.St} {H : Hp} {Q : VK} (h : Run X e σ H Q) : Run X e σ H fun v H' => BL X.K H' ∧ Q v H' := fun pins s I =>
  wpAny_mono (h pins s I) (fun _ _ ⟨v, H', I', r, q⟩ => ⟨v, H', I', r, bl_of I', q⟩) fun _ _ x => x
theorem we_tup {k} {Q : Res → Env2 → GD → Prop} (h : WA X es r G fun ds r1 G1 => ds.length ≤ LIM ∧ Q (.sh (.tup ds)) r1 G1) : WE X (.Tuple es k pos) r G Q := fun F0 T F H σ lk S =>
  Run.of (pe_tup paR) ((h F0 T F H σ lk S).mono fun vs H1 ⟨ds, r1, G1, F1, e1, S1, k1, hl, q⟩ => ⟨by rw [k1.length]; exact lim_ok hl, fun p hp => by
    have ef : Ex F1 (upd F1 p (.tup vs)) := Ex.new (S1.bas.freshF hp).1
    exact ⟨.sh (.tup ds), r1, G1, upd F1 p (.tup vs), e1.trans ef, S1.newF hp, ⟨p, vs, rfl, .inl (.inl upd_same), RepL.mono ef _ _ k1⟩, q⟩⟩)
theorem we_lst {Q : Res → Env2 → GD → Prop} (h : WA X es r G fun ds r1 G1 => ds.length ≤ LIM ∧ Q (.fr (.lst ds)) r1 G1) : WE X (.List es pos) r G Q := fun F0 T F H σ lk S =>
  Run.of (pe_lst paR) ((h F0 T F H σ lk S).mono fun vs H1 ⟨ds, r1, G1, F1, e1, S1, k1, hl, q⟩ => ⟨by rw [k1.length]; exact lim_ok hl, fun p hp => by
    obtain ⟨h1, h2, h3⟩ := S1.bas.freshF hp
    exact ⟨.fr (.lst ds), r1, G1, F1, e1, S1.newH hp, ⟨p, rfl, ⟨vs, upd_same, k1⟩, h1, h2, h3, S1.freshR hp⟩, q⟩⟩)
end
section
variable {X : Cy} {e a b c : Expr} {es : List Expr} {st : Stmt} {sts rest : List Stmt} {r : Env2} {G : GD} {pos : Pos} {Q : Res → Prop}
theorem opw_flat {f : Value → Value → Sem Value} {da db d : D} {v : V} (hd : ∀ K F, Rep K F d v) (h : ∀ F H va vb, Ex F H → Vw X.K F H da va → Vw X.K F H db vb → ∃ rr, OpR X f rr ∧ ∀ P : VK, P v H → rr va vb H P) (q : Q (.sh d)) : OpW X f da db Q :=
  fun F0 T F G H r σ va vb S h1 h2 => by
    obtain ⟨rr, k1, k2⟩ := h F H va vb S.bas.fh h1 h2
    exact ⟨rr, k1, k2 _ ⟨.sh d, F, Ex.refl _, S, hd _ _, q⟩⟩
theorem opw_add {i j : Int} (q : Q (.sh (.int (i + j)))) : OpW X (binaryOp .Add) (.int i) (.int j) Q :=
  opw_flat (d := .int (i + j)) (v := .int (i + j)) (fun _ _ => rfl) (fun F H va vb _ h1 h2 => ⟨_, op_add, fun P p => ⟨i, j, h1.int, h2.int, p⟩⟩) q
theorem opw_sub {i j : Int} (q : Q (.sh (.int (i - j)))) : OpW X (binaryOp .Sub) (.int i) (.int j) Q :=
  opw_flat (d := .int (i - j)) (v := .int (i - j)) (fun _ _ => rfl) (fun F H va vb _ h1 h2 => ⟨_, op_sub, fun P p => ⟨i, j, h1.int, h2.int, p⟩⟩) q
theorem opw_mul {i j : Int} (hc : (-(2 ^ 64) < i ∧ i < 2 ^ 64) ∨ (-(2 ^ 64) < j ∧ j < 2 ^ 64)) (q : Q (.sh (.int (i * j)))) : OpW X (binaryOp .Mult) (.int i) (.int j) Q :=
  opw_flat (d := .int (i * j)) (v := .int (i * j)) (fun _ _ => rfl) (fun F H va vb _ h1 h2 => ⟨_, op_mul, fun P p => ⟨i, j, h1.int, h2.int, hc, p⟩⟩) q
theorem opw_fdiv {i j : Int} (hc : 0 < j ∧ j < 1073741824) (q : Q (.sh (.int (i / j)))) : OpW X (binaryOp .FloorDiv) (.int i) (.int j) Q :=
  opw_flat (d := .int (i / j)) (v := .int (i / j)) (fun _ _ => rfl) (fun F H va vb _ h1 h2 => ⟨_, op_fdiv, fun P p => ⟨i, j, h1.int, h2.int, hc, p⟩⟩) q
theorem opw_mod {i j : Int} (hc : 0 < j) (q : Q (.sh (.int (i % j)))) : OpW X (binaryOp .Mod) (.int i) (.int j) Q :=
  opw_flat (d := .int (i % j)) (v := .int (i % j)) (fun _ _ => rfl) (fun F H va vb _ h1 h2 => ⟨_, op_mod, fun P p => ⟨i, j, h1.int, h2.int, hc, p⟩⟩) q
theorem opw_lt {i j : Int} (q : Q (.sh (.bl (decide (i < j))))) : OpW X (compareOp .Lt) (.int i) (.int j) Q :=
  opw_flat (d := .bl (decide (i < j))) (v := .bl (decide (i < j))) (fun _ _ => rfl) (fun F H va vb _ h1 h2 => ⟨_, op_lt, fun P p => ⟨i, j, h1.int, h2.int, p⟩⟩) q
theorem opw_le {i j : Int} (q : Q (.sh (.bl (decide (i ≤ j))))) : OpW X (compareOp .LtE) (.int i) (.int j) Q :=
  opw_flat (d := .bl (decide (i ≤ j))) (v := .bl (decide (i ≤ j))) (fun _ _ => rfl) (fun F H va vb _ h1 h2 => ⟨_, op_le, fun P p => ⟨i, j, h1.int, h2.int, p⟩⟩) q
theorem opw_gt {i j : Int} (q : Q (.sh (.bl (decide (j < i))))) : OpW X (compareOp .Gt) (.int i) (.int j) Q :=
  opw_flat (d := .bl (decide (j < i))) (v := .bl (decide (j < i))) (fun _ _ => rfl) (fun F H va vb _ h1 h2 => ⟨_, op_gt, fun P p => ⟨i, j, h1.int, h2.int, p⟩⟩) q
theorem opw_ge {i j : Int} (q : Q (.sh (.bl (decide (j ≤ i))))) : OpW X (compareOp .GtE) (.int i) (.int j) Q :=
  opw_flat (d := .bl (decide (j ≤ i))) (v := .bl (decide (j ≤ i))) (fun _ _ => rfl) (fun F H va vb _ h1 h2 => ⟨_, op_ge, fun P p => ⟨i, j, h1.int, h2.int, p⟩⟩) q
theorem vint_eq (i j : Int) : decide (V.int i = V.int j) = decide (i = j) := by
  by_cases h : i = j
  · subst h; simp
  · simp [h]
theorem vstr_eq (i j : Str) : decide (V.str i = V.str j) = decide (i = j) := by
  by_cases h : i = j
  · subst h; simp
  · simp [h]
theorem vbl_eq (i j : Bool) : decide (V.bl i = V.bl j) = (i == j) := by cases i <;> cases j <;> decide
theorem opw_eqI {i j : Int} (q : Q (.sh (.bl (decide (i = j))))) : OpW X (compareOp .Eq) (.int i) (.int j) Q :=
  opw_flat (d := .bl (decide (i = j))) (v := .bl (decide (i = j))) (fun _ _ => rfl) (fun F H va vb _ h1 h2 => ⟨_, op_eq, fun P p => by cases h1.int; cases h2.int; exact ⟨rfl, by rw [vint_eq]; exact p⟩⟩) q
theorem opw_neI {i j : Int} (q : Q (.sh (.bl (!decide (i = j))))) : OpW X (compareOp .NotEq) (.int i) (.int j) Q :=
  opw_flat (d := .bl (!decide (i = j))) (v := .bl (!decide (i = j))) (fun _ _ => rfl) (fun F H va vb _ h1 h2 => ⟨_, op_ne, fun P p => by cases h1.int; cases h2.int; exact ⟨rfl, by rw [vint_eq]; exact p⟩⟩) q
theorem opw_eqS {i j : Str} (q : Q (.sh (.bl (decide (i = j))))) : OpW X (compareOp .Eq) (.str i) (.str j) Q :=
  opw_flat (d := .bl (decide (i = j))) (v := .bl (decide (i = j))) (fun _ _ => rfl) (fun F H va vb _ h1 h2 => ⟨_, op_eq, fun P p => by cases h1.str; cases h2.str; exact ⟨rfl, by rw [vstr_eq]; exact p⟩⟩) q
theorem opw_eqB {i j : Bool} (q : Q (.sh (.bl (i == j)))) : OpW X (compareOp .Eq) (.bl i) (.bl j) Q :=
  opw_flat (d := .bl (i == j)) (v := .bl (i == j)) (fun _ _ => rfl) (fun F H va vb _ h1 h2 => ⟨_, op_eq, fun P p => by cases h1.bl; cases h2.bl; exact ⟨rfl, by rw [vbl_eq]; exact p⟩⟩) q
theorem opw_neB {i j : Bool} (q : Q (.sh (.bl (!(i == j))))) : OpW X (compareOp .NotEq) (.bl i) (.bl j) Q :=
  opw_flat (d := .bl (!(i == j))) (v := .bl (!(i == j))) (fun _ _ => rfl) (fun F H va vb _ h1 h2 => ⟨_, op_ne, fun P p => by cases h1.bl; cases h2.bl; exact ⟨rfl, by rw [vbl_eq]; exact p⟩⟩) q
/-- is None -/
def isNon : D → Bool
  | .non => true
  | _ => false
theorem vw_non {K : PySem.W.Frag} {F H : Hp} {d : D} {v : V} (h : Vw K F H d v) : decide (v = .non) = isNon d := by
  rcases h with h | ⟨p, rfl, h⟩
  · cases d with
    | non => cases (show v = .non from h); rfl
    | bl b => cases (show v = .bl b from h); rfl
    | int b => cases (show v = .int b from h); rfl
    | str b => cases (show v = .str b from h); rfl
    | tup b => obtain ⟨a, vs, rfl, _⟩ := h; rfl
    | lst b => obtain ⟨a, vs, rfl, _⟩ := h; rfl
    | dic ks b => obtain ⟨a, o, vs, rfl, _⟩ := h; rfl
    | ins C b => obtain ⟨a, dx, vs, rfl, _⟩ := h; rfl
    | adr b => cases (show v = .ref b from h); rfl
    | obj _ _ _ => exact h.elim
    | slo _ _ _ _ => exact h.elim
    | xdo _ _ => exact h.elim
    | tab _ => exact h.elim
    | hob _ _ => obtain ⟨rfl, _⟩ := h; rfl
    | kd _ _ _ => obtain ⟨a, ob, es, rfl, _⟩ := h; rfl
    | scr ns => obtain ⟨a, rfl, _⟩ := h; rfl
  · cases d with
    | lst b => rfl
    | dic ks b => rfl
    | obj _ _ _ => rfl
    | slo _ _ _ _ => rfl
    | xdo _ _ => rfl
    | tab _ => rfl
    | kd _ _ _ => rfl
    | _ => exact h.elim
theorem opw_isN {d : D} (q : Q (.sh (.bl (isNon d)))) : OpW X (compareOp .Is) d .non Q :=
  opw_flat (d := .bl (isNon d)) (v := .bl (isNon d)) (fun _ _ => rfl) (fun F H va vb _ h1 h2 => ⟨_, op_isN, fun P p => ⟨h2.non, by rw [vw_non h1]; exact p⟩⟩) q
/-- lists and tuples joined -/
theorem lst_of {X : Cx} {pins : List (Addr × Obj)} {σ : L2.St} {H : Hp} {s : Shared} {a : Addr} {xs : List V} (I : Inv X pins σ H s) (h : Rd H a (.lst xs)) : xs.length ≤ sizeLine ∧ ∃ (its : List Value) (n : Nat), Vals xs its ∧ s.heap.get? a = some { cls := .type "list", data := .seq its.toArray n } := by
  rcases h with h | ⟨o, h⟩
  · exact I.hok _ _ h
  · exact (I.hok _ _ h).2
def rCatR : R2 := fun x y H Q => ∃ l b xs zs, x = .ref l ∧ y = .ref b ∧ Rd H l (.lst xs) ∧ Rd H b (.lst zs) ∧ xs.length + zs.length ≤ sizeLine ∧ ∀ p, H p = none → Q (.ref p) (upd H p (.lst (xs ++ zs)))
theorem op_catR {X : Cx} : OpR X (binaryOp .Add) rCatR := by
  intro pins s σ H x y v u Q I rx ry h
  obtain ⟨l, b, xs, zs, rfl, rfl, hH, hB, hz, q⟩ := h
  cases rx
  cases ry
  obtain ⟨z, its, n, r, e⟩ := lst_of I hH
  obtain ⟨z2, its2, n2, r2, e2⟩ := lst_of I hB
  have hl := r.length
  have hl2 := r2.length
  refine PySem.P.add_list e e2 ?_ (by rw [List.size_toArray, List.size_toArray]; omega)
  have ea : its.toArray ++ its2.toArray = (its ++ its2).toArray := by simp
  rw [ea]
  exact ⟨.ref _, _, I.lnew (t' := s.toks) (r.append r2) (by rw [List.length_append]; omega), rfl, q _ I.fresh⟩
theorem opw_cat {xs ys : List D} (hl : xs.length + ys.length ≤ LIM) (q : Q (.fr (.lst (xs ++ ys)))) : OpW X (binaryOp .Add) (.lst xs) (.lst ys) Q :=
  fun F0 T F G H r σ va vb S h1 h2 => by
    obtain ⟨p1, vs, rfl, k1, k2⟩ := h1.lst S.bas.fh
    obtain ⟨p2, us, rfl, k3, k4⟩ := h2.lst S.bas.fh
    exact ⟨_, op_catR, p1, p2, vs, us, rfl, rfl, k1, k3, by rw [k2.length, k4.length]; exact lim_ok hl, fun p hp => by
      obtain ⟨f1, f2, f3⟩ := S.bas.freshF hp
      exact ⟨.fr (.lst (xs ++ ys)), F, Ex.refl _, S.newH hp, ⟨p, rfl, ⟨vs ++ us, upd_same, k2.append k4⟩, f1, f2, f3, S.freshR hp⟩, q⟩⟩
mutual
def toP : D → PyData
  | .non => .none
  | .bl b => .bool b
  | .int i => .int i
  | .str x => .str x
  | .tup ds => .tuple (toPs ds)
  | .lst ds => .list (toPs ds)
  | _ => .none
def toPs : List D → List PyData
  | [] => []
  | d :: ds => toP d :: toPs ds
end
def okD : Nat → D → Prop
  | _, .non => True
  | _, .bl _ => True
  | _, .int _ => True
  | _, .str x => PyData.strOk x = true
  | n + 1, .tup ds => ∀ d ∈ ds, okD n d
  | n + 1, .lst ds => ∀ d ∈ ds, okD n d
  | _, _ => False
theorem okD.dp {K : PySem.W.Frag} {F H : Hp} (e : Ex F H) : ∀ (n : Nat) (d : D) (v : V), okD n d → Vw K F H d v → Dp K H v (toP d) := by
  have all : ∀ n, (∀ (d : D) (v : V), okD n d → Vw K F H d v → Dp K H v (toP d)) → ∀ (ds : List D) (vs : List V), (∀ d ∈ ds, okD n d) → RepL K F ds vs → DpAll K H vs (toPs ds) := by
    intro n ih ds
    induction ds with
    | nil => intro vs _ h; cases (show vs = [] from h); exact .nil
    | cons d ds ih2 =>
      intro vs hk h
      obtain ⟨v, r, rfl, h1, h2⟩ := h
      exact .cons (ih d v (hk d List.mem_cons_self) (.inl h1)) (ih2 r (fun x hx => hk x (List.mem_cons_of_mem _ hx)) h2)
  intro n
  induction n with
  | zero =>
    intro d v hk h
    cases d with
    | non => cases h.non; exact .non
    | bl b => cases h.bl; exact .bl b
    | int b => cases h.int; exact .int b
    | str b => cases h.str; exact .str b
    | _ => exact hk.elim
  | succ n ih =>
    intro d v hk h
    cases d with
    | non => cases h.non; exact .non
    | bl b => cases h.bl; exact .bl b
    | int b => cases h.int; exact .int b
    | str b => cases h.str; exact .str b
    | tup ds =>
      obtain ⟨a, vs, rfl, h1, h2⟩ := h.tup e
      exact .tup h1 (all n ih ds vs hk h2)
    | lst ds =>
      obtain ⟨a, vs, rfl, h1, h2⟩ := h.lst e
      exact .lst (.inl h1) (all n ih ds vs hk h2)
    | _ => exact hk.elim
theorem okD.dep : ∀ (n : Nat) (d : D), okD n d → (toP d).depth ≤ n := by
  have all : ∀ n, (∀ d, okD n d → (toP d).depth ≤ n) → ∀ ds : List D, (∀ d ∈ ds, okD n d) → PyData.depthAll (toPs ds) ≤ n := by
    intro n ih ds
    induction ds with
    | nil => intro _; exact Nat.zero_le _
    | cons d ds ih2 =>
      intro hk
      show max (PyData.depth (toP d)) (PyData.depthAll (toPs ds)) ≤ n
      exact Nat.max_le.mpr ⟨ih d (hk d List.mem_cons_self), ih2 fun x hx => hk x (List.mem_cons_of_mem _ hx)⟩
  intro n
  induction n with
  | zero =>
    intro d hk
    cases d with
    | str b => exact Nat.le_refl _
    | non => exact Nat.le_refl _
    | bl b => exact Nat.le_refl _
    | int b => exact Nat.le_refl _
    | _ => exact hk.elim
  | succ n ih =>
    intro d hk
    cases d with
    | str b => exact Nat.zero_le _
    | non => exact Nat.zero_le _
    | bl b => exact Nat.zero_le _
    | int b => exact Nat.zero_le _
    | tup ds => exact Nat.succ_le_succ (all n ih ds hk)
    | lst ds => exact Nat.succ_le_succ (all n ih ds hk)
    | _ => exact hk.elim
theorem okD.lay : ∀ (n : Nat) (d : D), okD n d → (toP d).canLay0 = true := by
  have all : ∀ n, (∀ d, okD n d → (toP d).canLay0 = true) → ∀ ds : List D, (∀ d ∈ ds, okD n d) → PyData.canLayAll0 (toPs ds) = true := by
    intro n ih ds
    induction ds with
    | nil => intro _; rfl
    | cons d ds ih2 =>
      intro hk
      show (PyData.canLay0 (toP d) && PyData.canLayAll0 (toPs ds)) = true
      rw [ih d (hk d List.mem_cons_self), ih2 fun x hx => hk x (List.mem_cons_of_mem _ hx)]; rfl
  intro n
  induction n with
  | zero =>
    intro d hk
    cases d with
    | str b => exact hk
    | non => rfl
    | bl b => rfl
    | int b => rfl
    | _ => exact hk.elim
  | succ n ih =>
    intro d hk
    cases d with
    | str b => exact hk
    | non => rfl
    | bl b => rfl
    | int b => rfl
    | tup ds => exact all n ih ds hk
    | lst ds => exact all n ih ds hk
    | _ => exact hk.elim
theorem okD.shaped {n : Nat} {d : D} (h : okD n d) (hn : n ≤ 64) : SeqAt.shaped (toP d) = true := by
  unfold SeqAt.shaped
  rw [okD.lay n d h, decide_eq_true (Nat.le_trans (okD.dep n d h) hn)]; rfl
def eqD (a b : D) : Bool := PyData.eqv (toP a) (toP b)
theorem opw_eqD {da db : D} {n : Nat} (hu : X.A.units + 64 < cLine) (h1 : okD n da) (h2 : okD n db) (hn : n ≤ 64) (q : Q (.sh (.bl (eqD da db)))) : OpW X (compareOp .Eq) da db Q :=
  opw_flat (d := .bl (eqD da db)) (v := .bl (eqD da db)) (fun _ _ => rfl) (fun F H va vb e k1 k2 => ⟨_, op_eqD hu, fun P p => ⟨_, _, okD.dp e n _ _ h1 k1, okD.dp e n _ _ h2 k2, h1.shaped hn, h2.shaped hn, p⟩⟩) q
theorem opw_neD {da db : D} {n : Nat} (hu : X.A.units + 64 < cLine) (h1 : okD n da) (h2 : okD n db) (hn : n ≤ 64) (q : Q (.sh (.bl (!eqD da db)))) : OpW X (compareOp .NotEq) da db Q :=
  opw_flat (d := .bl (!eqD da db)) (v := .bl (!eqD da db)) (fun _ _ => rfl) (fun F H va vb e k1 k2 => ⟨_, op_neD hu, fun P p => ⟨_, _, okD.dp e n _ _ h1 k1, okD.dp e n _ _ h2 k2, h1.shaped hn, h2.shaped hn, p⟩⟩) q
def IxW (X : Cy) (da db : D) (Q : Res → Prop) : Prop :=
  ∀ (F0 T F : Hp) (G : GD) (H : Hp) (r : Env2) (σ : L2.St) (va vb : V), Sta X.K F0 T F G H r σ → Vw X.K F H da va → Vw X.K F H db vb →
    ∃ rr : R2, IxR X rr ∧ rr va vb H (fun v H' => ∃ x F', Ex F F' ∧ Sta X.K F0 T F' G H' r σ ∧ ResOk X.K T F' G H' r σ x v ∧ Q x)
def ixU (X : Cy) : R2 := fun x y H Q => ∃ rr : R2, IxR X rr ∧ rr x y H Q
theorem ixU_ok : IxR X (ixU X) := fun value slice pins s σ H x y v u Q I rx ry ⟨rr, h1, h2⟩ hs => h1 value slice pins s σ H x y v u Q I rx ry h2 hs
theorem we_ix {Q : Res → Env2 → GD → Prop} (hp : PlainIx b)
    (h : WE X a r G fun x r1 G1 => WE X b r1 G1 fun y r2 G2 => ∃ da db, VwR r2 G2 x da ∧ VwR r2 G2 y db ∧ IxW X da db fun z => Q z r2 G2) : WE X (.Subscript a b pos) r G Q :=
  fun F0 T F H σ lk S => Run.of (pe_ix ixU_ok peR peR hp) (by
    refine (h F0 T F H σ lk S).mono fun va H1 ⟨x, r1, G1, F1, e1, S1, k1, h1⟩ => ?_
    obtain ⟨F1', e1', S1', hv⟩ := hold S1 k1
    refine (h1 F0 T F1' H1 σ lk S1').mono fun vb H2 ⟨y, r2, G2, F2, e2, S2, k2, da, db, q1, q2, q3⟩ => ?_
    obtain ⟨rr, h3, h4⟩ := q3 F0 T F2 G2 H2 r2 σ va vb S2 (hv F2 G2 H2 r2 da e2 S2 q1) (S2.viewR k2 q2)
    refine ⟨fun u w H Q' => rr u w H (fun v H' => ∃ z F', Ex F2 F' ∧ Sta X.K F0 T F' G2 H' r2 σ ∧ ResOk X.K T F' G2 H' r2 σ z v ∧ Q z r2 G2) ∧ ∀ v H', (∃ z F', Ex F2 F' ∧ Sta X.K F0 T F' G2 H' r2 σ ∧ ResOk X.K T F' G2 H' r2 σ z v ∧ Q z r2 G2) → Q' v H', fun value slice pins s σ H x y v u Q' I rx ry ⟨q, m⟩ hs => ?_, h4, fun v H' ⟨z, F', m1, m2, m3, m4⟩ => ⟨z, r2, G2, F', ((e1.trans e1').trans e2).trans m1, m2, m3, m4⟩⟩
    exact wpAny_mono (h3 value slice pins s σ H x y v u _ I rx ry q hs) (fun _ _ ⟨v, H', I', rl, q⟩ => ⟨v, H', I', rl, m v H' q⟩) fun _ _ x => x)
/-- an item by an index of any sign -/
def atD (xs : List D) (i : Int) : Option D := (ixN xs.length i).bind fun j => xs[j]?
theorem atD_get {K : PySem.W.Frag} {F : Hp} {xs : List D} {vs : List V} {i : Int} {d : D} (h : RepL K F xs vs) (e : atD xs i = some d) : ∃ v, atI vs i = some v ∧ Rep K F d v := by
  unfold atD at e
  unfold atI
  rw [h.length]
  cases hj : ixN xs.length i with
  | none => rw [hj] at e; cases e
  | some j =>
    rw [hj] at e
    exact h.get e
theorem ixw_lst {xs : List D} {i : Int} {d : D} (e : atD xs i = some d) (q : Q (.sh d)) : IxW X (.lst xs) (.int i) Q := fun F0 T F G H r σ va vb S h1 h2 => by
  obtain ⟨p, vs, rfl, k1, k2⟩ := h1.lst S.bas.fh
  cases h2.int
  obtain ⟨v, k3, k4⟩ := atD_get k2 e
  exact ⟨_, ix_list, p, vs, i, v, rfl, rfl, .inl k1, k3, .sh d, F, Ex.refl _, S, k4, q⟩
theorem ixw_tup {xs : List D} {i : Int} {d : D} (e : atD xs i = some d) (q : Q (.sh d)) : IxW X (.tup xs) (.int i) Q := fun F0 T F G H r σ va vb S h1 h2 => by
  obtain ⟨p, vs, rfl, k1, k2⟩ := h1.tup S.bas.fh
  cases h2.int
  obtain ⟨v, k3, k4⟩ := atD_get k2 e
  exact ⟨_, ix_tup, p, vs, i, v, rfl, rfl, k1, k3, .sh d, F, Ex.refl _, S, k4, q⟩
theorem atD_nat {xs : List D} {j : Nat} {d : D} (e : xs[j]? = some d) : atD xs (j : Int) = some d := by
  have hj := (List.getElem?_eq_some_iff.mp e).1
  unfold atD ixN
  rw [if_pos (by omega), if_pos (by omega)]
  simpa using e
/-- one operand -/
theorem we_un {op : UnaryOp} {Q : Res → Env2 → GD → Prop} (hop : op = .USub) (h : WE X a r G fun x r1 G1 => ∃ i, vw r1 x = some (.int i) ∧ Q (.sh (.int (-i))) r1 G1) : WE X (.UnaryOp op a pos) r G Q := fun F0 T F H σ lk S => by
  subst hop
  exact Run.of (pe_un un_neg peR) ((h F0 T F H σ lk S).mono fun va H1 ⟨x, r1, G1, F1, e1, S1, k1, i, h1, h2⟩ => ⟨i, (S1.view k1 h1).int, .sh (.int (-i)), r1, G1, F1, e1, S1, rfl, h2⟩)
end
inductive All2 {A B : Type} (R : A → B → Prop) : List A → List B → Prop
  | nil : All2 R [] []
  | cons {a : A} {b : B} {as : List A} {bs : List B} (h : R a b) (t : All2 R as bs) : All2 R (a :: as) (b :: bs)
section
variable {X : Cy} {e a b c o : Expr} {es : List Expr} {st : Stmt} {sts rest body orelse : List Stmt} {r : Env2} {G : GD} {pos : Pos} {D0 : EndsD}
theorem wb_nil (h : D0.nx r G) : WB X [] r G D0 := fun F0 T F H σ lk S => RunB.of pss_nil ⟨r, G, F, S, h⟩
theorem wb_cons (h : WS X st r G { D0 with nx := fun r1 G1 => WB X rest r1 G1 D0 }) : WB X (st :: rest) r G D0 := fun F0 T F H σ lk S =>
  RunB.of (pss_cons psR pbR) ((h F0 T F H σ lk S).mono (fun σ' H' ⟨r', G', F', S', q⟩ => q F0 T F' H' σ' lk S') (fun _ _ z => z) (fun _ _ z => z) (fun _ _ z => z))
/-- a block's state cut: what holds behind the first statement -/
theorem wb_cut (W : Env2 → GD → Prop) (h : WS X st r G { D0 with nx := W }) (k : ∀ r1 G1, W r1 G1 → WB X rest r1 G1 D0) : WB X (st :: rest) r G D0 := fun F0 T F H σ lk S =>
  RunB.of (pss_cons psR pbR) ((h F0 T F H σ lk S).mono (fun σ' H' ⟨r', G', F', S', q⟩ => k r' G' q F0 T F' H' σ' lk S') (fun _ _ z => z) (fun _ _ z => z) (fun _ _ z => z))
theorem ws_if (h : WT X c r G fun d r1 G1 => (d = true → WB X body r1 G1 D0) ∧ (d = false → WB X orelse r1 G1 D0)) : WS X (.If c body orelse pos) r G D0 := fun F0 T F H σ lk S =>
  RunS.of (ps_if ptR pbR pbR) ((h F0 T F H σ lk S).mono fun d H1 ⟨r1, G1, F1, e1, S1, q1, q2⟩ => by
    cases d with
    | true => rw [if_pos rfl]; exact q1 rfl F0 T F1 H1 σ lk S1
    | false => rw [if_neg Bool.false_ne_true]; exact q2 rfl F0 T F1 H1 σ lk S1)
theorem ws_expr (h : WE X e r G fun _ r1 G1 => D0.nx r1 G1) (hs : swapsWith e none pos.line X.env = pure false := by rfl) : WS X (.Expr e pos) r G D0 := fun F0 T F H σ lk S =>
  RunS.of (ps_expr peR hs) ((h F0 T F H σ lk S).mono fun v H1 ⟨x, r1, G1, F1, e1, S1, k1, q⟩ => ⟨r1, G1, F1, S1, q⟩)
/-- what is handed out -/
def rtS (r : Env2) : Res → Option Res
  | .sh d => some (.sh d)
  | .fr d => some (.fr d)
  | .pk i => match r[i]? with
    | some (.own d) => some (.fr d)
    | _ => none
theorem ws_ret (h : WE X e r G fun x r1 G1 => ∃ y, rtS r1 x = some y ∧ D0.rt y G1) : WS X (.Return (some e) pos) r G D0 := fun F0 T F H σ lk S =>
  RunS.of (ps_ret peR) ((h F0 T F H σ lk S).mono fun v H1 ⟨x, r1, G1, F1, e1, S1, k1, y, q1, q2⟩ => by
    refine ⟨y, G1, F1, S1.bas, ?_, q2⟩
    cases x with
    | sh d => cases q1; exact k1
    | fr d => cases q1; obtain ⟨p, z1, z2, z3, z4, z5, _⟩ := k1; exact ⟨p, z1, z2, z3, z4, z5⟩
    | pk i =>
      obtain ⟨h1, d, h2⟩ := k1
      have q1' : (match r1[i]? with | some (.own d) => some (Res.fr d) | _ => none) = some y := q1
      rw [h2] at q1'
      cases q1'
      obtain ⟨p, z1, z2, z3, z4, z5⟩ := S1.ownS h2
      rw [h1] at z1; cases z1
      exact ⟨p, rfl, z2, z3, z4, z5⟩)
def putS (r : Env2) (i : Nat) : Res → Option Env2
  | .sh d => some (r.set i (.sh d))
  | .fr d => some (r.set i (.own d))
  | .pk j => match r[j]? with
    | some (.own d) => if isDic d then none else some ((r.set j (.sh d)).set i (.sh d))
    | _ => none
theorem Sta.putS {K : PySem.W.Frag} {F0 T F : Hp} {G : GD} {H : Hp} {r r2 : Env2} {σ : L2.St} {x : Res} {v : V} {i : Nat} (S : Sta K F0 T F G H r σ) (h : ResOk K T F G H r σ x v) (hi : i < r.length) (e : putS r i x = some r2) : ∃ F', Ex F F' ∧ Sta K F0 T F' G H r2 (σ.set i (some v)) := by
  cases x with
  | sh d => cases e; exact ⟨F, Ex.refl _, S.set hi ⟨v, rfl, h⟩ fun d' z => nomatch z⟩
  | fr d =>
    cases e
    obtain ⟨p, z1, z2, z3, z4, z5, z6⟩ := h
    subst z1
    exact ⟨F, Ex.refl _, S.set hi ⟨p, rfl, z2, z3, z4, z5⟩ fun d' _ j e' he _ => z6 j e' he⟩
  | pk j =>
    obtain ⟨h1, d, h2⟩ := h
    have e' : (match r[j]? with | some (.own d) => if isDic d then none else some ((r.set j (.sh d)).set i (.sh d)) | _ => none) = some r2 := e
    rw [h2] at e'
    dsimp only at e'
    have hD : isDic d = false := by
      cases hD : isDic d with
      | true => rw [hD] at e'; cases e'
      | false => rfl
    rw [hD] at e'
    cases e'
    obtain ⟨F', k1, k2, v', k3, k4⟩ := S.frzSlot hD h2
    rw [h1] at k3; cases k3
    exact ⟨F', k1, k2.set (by rw [List.length_set]; exact hi) ⟨v, rfl, k4⟩ fun d' z => nomatch z⟩
theorem ws_set (i : Nat) {x : Str} {pos' : Pos} (hN : X.N.Nodup) (hi : X.N[i]? = some x) (hx : Loc X.env.scope x) (h : WE X e r G fun y r1 G1 => i < r1.length ∧ ∃ r2, putS r1 i y = some r2 ∧ D0.nx r2 G1)
    (hs : swapsWith e (some (.Name x pos')) pos.line X.env = pure false := by rfl) (hf : X.fn x = true ∨ X.env.scope.names.lookup x = some .local := by first | exact .inl rfl | exact .inr rfl | assumption) : WS X (.Assign [.Name x pos'] e pos) r G D0 := fun F0 T F H σ lk S =>
  RunS.of (ps_set hN hi hx peR hs hf) ((h F0 T F H σ lk S).mono fun v H1 ⟨y, r1, G1, F1, e1, S1, k1, hi', r2, q1, q2⟩ => by
    obtain ⟨F2, e2, S2⟩ := S1.putS k1 hi' q1
    exact ⟨r2, G1, F2, S2, q2⟩)
/-- targets: names in a row, from frozen data -/
theorem pgs_run : ∀ {tg : List Expr} {ixs : List Nat}, All2 (fun t i => PG X t (gName i)) tg ixs → (∀ t ∈ tg, ∀ ts, (assignEach (t :: ts) X.env).map (·.2) = assign t X.env :: (assignEach ts X.env).map (·.2)) →
    PGs X tg (fun vs σ H Q => vs.length = ixs.length ∧ Q ((ixs.zip vs).foldl (fun s p => s.set p.1 (some p.2)) σ) H)
  | [], [], .nil, _ => ⟨fun pins s σ H vs us Q I rv h => (pgs_nil (X := X)).run pins s σ H vs us Q I rv ⟨List.length_eq_zero_iff.mp h.1, by
      have e : vs = [] := List.length_eq_zero_iff.mp h.1
      subst e
      exact h.2⟩⟩
  | t :: tg, i :: ixs, .cons hp hr, hs => ⟨fun pins s σ H vs us Q I rv h => by
      obtain ⟨hl, q⟩ := h
      cases vs with
      | nil => simp at hl
      | cons v vs =>
        refine (pgs_cons hp (pgs_run hr fun t' ht => hs t' (List.mem_cons_of_mem _ ht)) (hs t List.mem_cons_self tg)).run pins s σ H (v :: vs) us Q I rv ⟨v, vs, rfl, ?_⟩
        exact ⟨by simpa using hl, q⟩⟩
def setAll (r : Env2) : List Nat → List D → Env2
  | i :: is, d :: ds => setAll (r.set i (.sh d)) is ds
  | _, _ => r
theorem Sta.setAll {K : PySem.W.Frag} {F0 T F : Hp} {G : GD} {H : Hp} : ∀ (is : List Nat) (ds : List D) (vs : List V) {r : Env2} {σ : L2.St}, Sta K F0 T F G H r σ → RepL K F ds vs → is.length = ds.length → (∀ i ∈ is, i < r.length) →
    Sta K F0 T F G H (setAll r is ds) ((is.zip vs).foldl (fun s p => s.set p.1 (some p.2)) σ)
  | [], [], vs, r, σ, S, h, _, _ => by
    unfold RB.setAll
    exact S
  | i :: is, d :: ds, vs, r, σ, S, h, hl, hi => by
    obtain ⟨v, vr, rfl, h1, h2⟩ := h
    unfold RB.setAll
    exact Sta.setAll is ds vr (S.set (hi i List.mem_cons_self) ⟨v, rfl, h1⟩ fun d' z => nomatch z) h2 (by simpa using hl) fun j hj => by rw [List.length_set]; exact hi j (List.mem_cons_of_mem _ hj)
  | [], d :: ds, vs, r, σ, S, h, hl, _ => by simp at hl
  | i :: is, [], vs, r, σ, S, h, hl, _ => by simp at hl
/-- a, b, .. = e : e a tuple -/
theorem ws_unpack {tg : List Expr} {k : Nat} {tpos : Pos} (is : List Nat) (hc : X.calm = true) (hp : All2 (fun t i => PG X t (gName i)) tg is) (hst : ∀ t ∈ tg, ∀ ts, (assignEach (t :: ts) X.env).map (·.2) = assign t X.env :: (assignEach ts X.env).map (·.2))
    (h : WE X e r G fun y r1 G1 => ∃ ds r2, fz r1 y = some (.tup ds, r2) ∧ ds.length = is.length ∧ (∀ i ∈ is, i < r2.length) ∧ D0.nx (setAll r2 is ds) G1)
    (hn : (assignEach tg X.env).length = is.length := by rfl) (hf : (assignEach tg X.env).findIdx? (·.1) = none := by rfl)
    (hs : swapsWithSole [.Tuple tg k tpos] e pos.line X.env = pure false := by rfl) (hw : swappedStores [.Tuple tg k tpos] e X.env = pure none := by rfl)
    (h1 : (assignEach [.Tuple tg k tpos] X.env).map (·.2) = [assign (.Tuple tg k tpos) X.env] := by rfl) : WS X (.Assign [.Tuple tg k tpos] e pos) r G D0 := fun F0 T F H σ lk S =>
  RunS.of (ps_asg peR (pg_tup hc (pgs_run hp hst) hn hf) hs hw h1) ((h F0 T F H σ lk S).mono fun v H1 ⟨y, r1, G1, F1, e1, S1, k1, ds, r2, q1, q2, q3, q4⟩ => by
    obtain ⟨F2, e2, S2, rp⟩ := S1.fz k1 q1
    obtain ⟨a, vs, rfl, z1, z2⟩ := rp
    refine ⟨a, vs, rfl, S2.bas.fh.sqT z1, by rw [z2.length]; exact q2, by rw [z2.length]; exact q2, ?_⟩
    exact ⟨_, G1, F2, S2.setAll is ds vs z2 q2.symm q3, q4⟩)
/-- a result that is no own slot -/
def nz (r : Env2) : Res → Option (Res × Env2)
  | .sh d => some (.sh d, r)
  | .fr d => some (.fr d, r)
  | .pk i => match r[i]? with
    | some (.own d) => if isDic d then none else some (.sh d, r.set i (.sh d))
    | _ => none
def slO : Res → Sl
  | .sh d => .sh d
  | .fr d => .own d
  | .pk _ => .no
theorem Sta.nz {K : PySem.W.Frag} {F0 T F : Hp} {G : GD} {H : Hp} {r r2 : Env2} {σ : L2.St} {x y : Res} {v : V} (S : Sta K F0 T F G H r σ) (h : ResOk K T F G H r σ x v) (e : nz r x = some (y, r2)) : ∃ F', Ex F F' ∧ Sta K F0 T F' G H r2 σ ∧ ResOk K T F' G H r2 σ y v ∧ ∀ i, y ≠ .pk i := by
  cases x with
  | sh d => cases e; exact ⟨F, Ex.refl _, S, h, fun i z => nomatch z⟩
  | fr d => cases e; exact ⟨F, Ex.refl _, S, h, fun i z => nomatch z⟩
  | pk i =>
    obtain ⟨h1, d, h2⟩ := h
    have e' : (match r[i]? with | some (.own d) => if isDic d then none else some (Res.sh d, r.set i (.sh d)) | _ => none) = some (y, r2) := e
    rw [h2] at e'
    dsimp only at e'
    have hD : isDic d = false := by
      cases hD : isDic d with
      | true => rw [hD] at e'; cases e'
      | false => rfl
    rw [hD] at e'
    cases e'
    obtain ⟨F', k1, k2, v', k3, k4⟩ := S.frzSlot hD h2
    rw [h1] at k3; cases k3
    exact ⟨F', k1, k2, k4, fun i z => nomatch z⟩
theorem holdT {K : PySem.W.Frag} {F0 T F : Hp} {G : GD} {H : Hp} {r : Env2} {σ : L2.St} {z : Res} {v : V} (S : Sta K F0 T F G H r σ) (h : ResOk K T F G H r σ z v) (hz : ∀ i, z ≠ .pk i) :
    ∃ T', Ex T T' ∧ Sta K F0 T' F G H r σ ∧ ∀ (F2 : Hp) (G2 : GD) (H2 : Hp) (r2 : Env2) (σ2 : L2.St), Ex F F2 → Sta K F0 T' F2 G2 H2 r2 σ2 → Sta K F0 T F2 G2 H2 r2 σ2 ∧ ResOk K T F2 G2 H2 r2 σ2 z v ∧
      ∀ (z2 : Res) (v2 : V), ResOk K T' F2 G2 H2 r2 σ2 z2 v2 → ResOk K T F2 G2 H2 r2 σ2 z2 v2 ∧ ∀ d d2, z = .fr d → z2 = .fr d2 → v ≠ v2 := by
  cases z with
  | pk i => exact absurd rfl (hz i)
  | sh d => exact ⟨T, Ex.refl _, S, fun F2 G2 H2 r2 σ2 ex S2 => ⟨S2, Rep.mono ex _ _ h, fun z2 v2 k => ⟨k, fun d d2 q => nomatch q⟩⟩⟩
  | fr d =>
    obtain ⟨p, rfl, z2, z3, z4, z5, z6⟩ := h
    obtain ⟨o, ho⟩ := z2.there
    refine ⟨upd T p o, Ex.new z5, ?_, ?_⟩
    · refine ⟨⟨S.bas.ff, fun q u hq => ?_, S.bas.fh, S.bas.gh, S.bas.fg, fun q u hq => ?_, fun q u hq => ?_⟩, S.len, fun i s hs => ?_, S.ap⟩
      · have hqp : q ≠ p := fun zz => by subst zz; rw [z3] at hq; cases hq
        rw [upd_ne hqp]
        exact S.bas.ft q u hq
      · have hqp : q ≠ p := fun zz => by subst zz; rw [z4] at hq; cases hq
        rw [upd_ne hqp]
        exact S.bas.gt q u hq
      · by_cases hqp : q = p
        · subst hqp; rw [upd_same] at hq; cases hq; exact ho
        · rw [upd_ne hqp] at hq; exact S.bas.tk q u hq
      · have hh := S.sl i s hs
        cases s with
        | no => trivial
        | sh d => exact hh
        | own d =>
          obtain ⟨p', y1, y2, y3, y4, y5⟩ := hh
          have hqp : p' ≠ p := fun zz => by subst zz; exact z6 i d hs y1
          exact ⟨p', y1, y2, y3, y4, by rw [upd_ne hqp]; exact y5⟩
    · intro F2 G2 H2 r2 σ2 ex S2
      have tsub : ∀ q u, T q = some u → upd T p o q = some u := fun q u hq => by
        have hqp : q ≠ p := fun zz => by subst zz; rw [z5] at hq; cases hq
        rw [upd_ne hqp]; exact hq
      have tdown : ∀ q, upd T p o q = none → T q = none := fun q hq => by
        cases hf : T q with
        | none => rfl
        | some u => rw [tsub q u hf] at hq; cases hq
      have tp : ∀ q, upd T p o q = none → q ≠ p := fun q hq zz => by subst zz; rw [upd_same] at hq; cases hq
      have fp : F2 p = none := by
        cases hf : F2 p with
        | none => rfl
        | some u =>
          rcases S2.bas.ft p u hf with zz | zz
          · have := S.bas.ff p u zz
            rw [z3] at this; cases this
          · exact absurd rfl (tp p zz)
      have gp : G2 p = none := by
        cases hf : G2 p with
        | none => rfl
        | some u => exact absurd rfl (tp p (S2.bas.gt p u hf))
      refine ⟨⟨⟨S2.bas.ff, fun q u hq => (S2.bas.ft q u hq).imp id (tdown q), S2.bas.fh, S2.bas.gh, S2.bas.fg, fun q u hq => tdown q (S2.bas.gt q u hq), fun q u hq => S2.bas.tk q u (tsub q u hq)⟩, S2.len, fun i s hs => ?_, S2.ap⟩, ⟨p, rfl, z2.mono ex fun u hu => by rw [ho] at hu; cases hu; exact S2.bas.tk p o upd_same, fp, gp, z5, fun k d' hk zz => ?_⟩, fun z2' v2 k => ?_⟩
      · have hh := S2.sl i s hs
        cases s with
        | no => trivial
        | sh d => exact hh
        | own d =>
          obtain ⟨p', k1, k2, k3, k4, k5⟩ := hh
          exact ⟨p', k1, k2, k3, k4, tdown p' k5⟩
      · obtain ⟨p', k1, _, _, _, k5⟩ := S2.ownS hk
        rw [zz] at k1; cases k1
        exact tp p k5 rfl
      · cases z2' with
        | sh d => exact ⟨k, fun d d2 _ q => nomatch q⟩
        | pk i => exact ⟨k, fun d d2 _ q => nomatch q⟩
        | fr d' =>
          obtain ⟨p2, rfl, k2, k3, k4, k5, k6⟩ := k
          exact ⟨⟨p2, rfl, k2, k3, k4, tdown p2 k5, k6⟩, fun _ _ _ _ zz => by cases zz; exact tp p k5 rfl⟩
/-- a held result goes to a slot -/
theorem Sta.setR {K : PySem.W.Frag} {F0 T F : Hp} {G : GD} {H : Hp} {r : Env2} {σ : L2.St} {z : Res} {v : V} {i : Nat} (S : Sta K F0 T F G H r σ) (h : ResOk K T F G H r σ z v) (hi : i < r.length) (hz : ∀ i, z ≠ .pk i) : Sta K F0 T F G H (r.set i (slO z)) (σ.set i (some v)) := by
  cases z with
  | pk j => exact absurd rfl (hz j)
  | sh d => exact S.set hi ⟨v, rfl, h⟩ fun d' z => nomatch z
  | fr d =>
    obtain ⟨p, rfl, z2, z3, z4, z5, z6⟩ := h
    exact S.set hi ⟨p, rfl, z2, z3, z4, z5⟩ fun d' _ j e' he _ => z6 j e' he
/-- .. and another held one stays good -/
theorem ResOk.setR {K : PySem.W.Frag} {T F : Hp} {G : GD} {H : Hp} {r : Env2} {σ : L2.St} {z z2 : Res} {v v2 : V} {i : Nat} (h2 : ResOk K T F G H r σ z2 v2) (hi : i < r.length) (hl : r.length = σ.length) (hz : ∀ i, z ≠ .pk i) (hz2 : ∀ i, z2 ≠ .pk i) (hd : ∀ d d2, z = .fr d → z2 = .fr d2 → v ≠ v2) :
    ResOk K T F G H (r.set i (slO z)) (σ.set i (some v)) z2 v2 := by
  cases z2 with
  | pk j => exact absurd rfl (hz2 j)
  | sh d => exact h2
  | fr d =>
    obtain ⟨p, rfl, k2, k3, k4, k5, k6⟩ := h2
    refine ⟨p, rfl, k2, k3, k4, k5, fun k e' he zz => ?_⟩
    by_cases hki : i = k
    · subst hki
      rw [List.getElem?_set_self hi] at he
      rw [List.getElem?_set_self (by rw [← hl]; exact hi)] at zz
      cases z with
      | pk j => exact hz j rfl
      | sh d' => cases he
      | fr d' => cases zz; exact hd d' d rfl rfl rfl
    · rw [List.getElem?_set_ne hki] at he zz
      exact k6 k e' he zz
/-- a, b = e1, e2 with local names -/
theorem ws_par (i j : Nat) {x y : Str} {px py pt : Pos} {kt k2 pt2} (hc : X.calm = true) (hN : X.N.Nodup) (hi : X.N[i]? = some x) (hj : X.N[j]? = some y) (hij : i ≠ j) (hx : X.env.scope.names.lookup x = some .local) (hy : X.env.scope.names.lookup y = some .local)
    (hw : swappedStores [.Tuple [.Name x px, .Name y py] kt pt] (.Tuple [a, b] k2 pt2) X.env = pure (some [x, y]))
    (h : WE X a r G fun z r1 G1 => ∃ z' r2, nz r1 z = some (z', r2) ∧ WE X b r2 G1 fun w r3 G3 => ∃ w' r4, nz r3 w = some (w', r4) ∧ i < r4.length ∧ j < r4.length ∧ D0.nx ((r4.set i (slO z')).set j (slO w')) G3)
    (hs : swapsWithSole [.Tuple [.Name x px, .Name y py] kt pt] (.Tuple [a, b] k2 pt2) pos.line X.env = pure false := by rfl)
    (h1 : starEach [a, b] X.env = (false, eval a X.env) :: starEach [b] X.env := by rfl) (h2 : starEach [b] X.env = (false, eval b X.env) :: starEach [] X.env := by rfl) :
    WS X (.Assign [.Tuple [.Name x px, .Name y py] kt pt] (.Tuple [a, b] k2 pt2) pos) r G D0 := fun F0 T F H σ lk S =>
  RunS.of (ps_par hc hN hi hj hij hx hy (pa_cons peR (pa_cons peR pa_nil h2) h1) hw hs) ((h F0 T F H σ lk S).mono fun v H1 ⟨z, r1, G1, F1, e1, S1, k1, z', r2, q1, q2⟩ => by
    obtain ⟨F2, e2, S2, k2, hz⟩ := S1.nz k1 q1
    obtain ⟨T', tx, S2', hold⟩ := holdT S2 k2 hz
    refine (q2 F0 T' F2 H1 σ (lk.ext tx) S2').mono fun w H3 ⟨u, r3, G3, F3, e3, S3, k3, w', r4, q3, hi', hj', q4⟩ => ?_
    obtain ⟨F4, e4, S4, k4, hz4⟩ := S3.nz k3 q3
    obtain ⟨S5, m1, m2⟩ := hold F4 G3 H3 r4 σ (e3.trans e4) S4
    obtain ⟨m3, m4⟩ := m2 w' w k4
    refine ⟨v, w, rfl, _, G3, F4, ?_, q4⟩
    exact (S5.setR m1 hi' hz).setR (m3.setR hi' S5.len hz hz4 m4) (by rw [List.length_set]; exact hj') hz4)
theorem ws_par3 (i j l : Nat) {x y z : Str} {c : Expr} {px py pz pt : Pos} {kt k2 pt2} (hc : X.calm = true) (hN : X.N.Nodup) (hi : X.N[i]? = some x) (hj : X.N[j]? = some y) (hl : X.N[l]? = some z) (hij : i ≠ j) (hil : i ≠ l) (hjl : j ≠ l)
    (hx : X.env.scope.names.lookup x = some .local) (hy : X.env.scope.names.lookup y = some .local) (hz0 : X.env.scope.names.lookup z = some .local)
    (hw : swappedStores [.Tuple [.Name x px, .Name y py, .Name z pz] kt pt] (.Tuple [a, b, c] k2 pt2) X.env = pure (some [x, y, z]))
    (h : WE X a r G fun z1 r1 G1 => ∃ z1' r2, nz r1 z1 = some (z1', r2) ∧ WE X b r2 G1 fun w r3 G3 => ∃ w' r4, nz r3 w = some (w', r4) ∧ WE X c r4 G3 fun u r5 G5 => ∃ u' r6, nz r5 u = some (u', r6) ∧ i < r6.length ∧ j < r6.length ∧ l < r6.length ∧ D0.nx (((r6.set i (slO z1')).set j (slO w')).set l (slO u')) G5)
    (hs : swapsWithSole [.Tuple [.Name x px, .Name y py, .Name z pz] kt pt] (.Tuple [a, b, c] k2 pt2) pos.line X.env = pure false := by rfl)
    (h1 : starEach [a, b, c] X.env = (false, eval a X.env) :: starEach [b, c] X.env := by rfl) (h2 : starEach [b, c] X.env = (false, eval b X.env) :: starEach [c] X.env := by rfl) (h3 : starEach [c] X.env = (false, eval c X.env) :: starEach [] X.env := by rfl) :
    WS X (.Assign [.Tuple [.Name x px, .Name y py, .Name z pz] kt pt] (.Tuple [a, b, c] k2 pt2) pos) r G D0 := fun F0 T F H σ lk S =>
  RunS.of (ps_par3 hc hN hi hj hl hij hil hjl hx hy hz0 (pa_cons peR (pa_cons peR (pa_cons peR pa_nil h3) h2) h1) hw hs) ((h F0 T F H σ lk S).mono fun v H1 ⟨z, r1, G1, F1, e1, S1, k1, z', r2, q1, q2⟩ => by
    obtain ⟨F2, e2, S2, k2, hz⟩ := S1.nz k1 q1
    obtain ⟨T', tx, S2', hold⟩ := holdT S2 k2 hz
    refine (q2 F0 T' F2 H1 σ (lk.ext tx) S2').mono fun w H3 ⟨u, r3, G3, F3, e3, S3, k3, w', r4, q3, q4⟩ => ?_
    obtain ⟨F4, e4, S4, k4, hz4⟩ := S3.nz k3 q3
    obtain ⟨T'', tx2, S4', hold'⟩ := holdT S4 k4 hz4
    refine (q4 F0 T'' F4 H3 σ ((lk.ext tx).ext tx2) S4').mono fun v5 H5 ⟨u5, r5, G5, F5, e5, S5, k5, u', r6, q5, hi', hj', hl', q6⟩ => ?_
    obtain ⟨F6, e6, S6, k6, hz6⟩ := S5.nz k5 q5
    obtain ⟨S7, m1, m2⟩ := hold' F6 G5 H5 r6 σ (e5.trans e6) S6
    obtain ⟨m3, m4⟩ := m2 u' v5 k6
    obtain ⟨S8, n1, n2⟩ := hold F6 G5 H5 r6 σ ((e3.trans e4).trans (e5.trans e6)) S7
    obtain ⟨n3, n4⟩ := n2 w' w m1
    obtain ⟨n5, n6⟩ := n2 u' v5 m3
    refine ⟨v, w, v5, rfl, _, G5, F6, ?_, q6⟩
    have A := S8.setR n1 hi' hz
    have B := n3.setR hi' S8.len hz hz4 n4
    have C := n5.setR hi' S8.len hz hz6 n6
    have hj2 : j < (r6.set i (slO z')).length := by rw [List.length_set]; exact hj'
    have hl2 : l < ((r6.set i (slO z')).set j (slO w')).length := by rw [List.length_set, List.length_set]; exact hl'
    exact (A.setR B hj2 hz4).setR (C.setR hj2 A.len hz4 hz6 m4) hl2 hz6)
end
def isort (ns : List Int) : List Int := ns.mergeSort fun a b => decide (a ≤ b)
theorem isort_perm (ns : List Int) : (isort ns).Perm ns := List.mergeSort_perm ns _
theorem isort_sorted (ns : List Int) : (isort ns).Pairwise (· ≤ ·) := by
  have h := List.pairwise_mergeSort (le := fun a b : Int => decide (a ≤ b)) (fun a b c h1 h2 => by simp at *; omega) (fun a b => by simp; omega) ns
  exact h.imp fun h => by simpa using h
theorem sorted_unique : ∀ {xs ys : List Int}, xs.Perm ys → xs.Pairwise (· ≤ ·) → ys.Pairwise (· ≤ ·) → xs = ys := fun {xs ys} p h1 h2 =>
  List.Perm.eq_of_pairwise (le := (· ≤ ·)) (fun a b _ _ h h' => Int.le_antisymm h h') h1 h2 p
theorem isort_of {xs ys : List Int} (p : xs.Perm ys) (h : xs.Pairwise (· ≤ ·)) : xs = isort ys := sorted_unique (p.trans (isort_perm ys).symm) h (isort_sorted ys)
theorem isort_length (ns : List Int) : (isort ns).length = ns.length := (isort_perm ns).length_eq
section
variable {X : Cy} {e a b c o : Expr} {es : List Expr} {st : Stmt} {sts rest body orelse : List Stmt} {r : Env2} {G : GD} {pos p0 : Pos} {D0 : EndsD} {Q : Res → Prop}
def CallW1 (X : Cy) (f : Value) (d : D) (Q : Res → Prop) : Prop :=
  ∀ (F0 T F : Hp) (G : GD) (H : Hp) (r : Env2) (σ : L2.St) (v : V), Sta X.K F0 T F G H r σ → Vw X.K F H d v →
    ∃ rr : List V → Hp → VK → Prop, CallR X f rr ∧ rr [v] H (fun v' H' => ∃ x F', Ex F F' ∧ Sta X.K F0 T F' G H' r σ ∧ ResOk X.K T F' G H' r σ x v' ∧ Q x)
def callU (X : Cy) (f : Value) : List V → Hp → VK → Prop := fun vs H Q => ∃ rr : List V → Hp → VK → Prop, CallR X f rr ∧ rr vs H Q
theorem callU_ok (f : Value) : CallR X f (callU X f) := fun pins s σ H xs us Q I rv ⟨rr, h1, h2⟩ => h1 pins s σ H xs us Q I rv h2
theorem CallR.post {f : Value} {rr : List V → Hp → VK → Prop} (h : CallR X f rr) (P : VK) : CallR X f (fun vs H Q' => rr vs H P ∧ ∀ v H', P v H' → Q' v H') := fun pins s σ H xs us Q' I rv ⟨q, m⟩ =>
  wpAny_mono (h pins s σ H xs us P I rv q) (fun _ _ ⟨v, H', I', rl, q⟩ => ⟨v, H', I', rl, m v H' q⟩) fun _ _ x => x
theorem one1 {f : Value} {Q : Res → Env2 → GD → Prop} {F0 T F H : Hp} {σ : L2.St} (lk : Lk X F0 T) (S : Sta X.K F0 T F G H r σ) (h : WE X e r G fun x r1 G1 => ∃ d, VwR r1 G1 x d ∧ CallW1 X f d fun z => Q z r1 G1) :
    tCB (callU X f) (tCons (Run X e) tNil) σ H (PostE X.K F0 T F σ Q) := by
  refine (h F0 T F H σ lk S).mono fun v H1 ⟨x, r1, G1, F1, e1, S1, k1, d, q1, q2⟩ => ?_
  obtain ⟨rr, h3, h4⟩ := q2 F0 T F1 G1 H1 r1 σ v S1 (S1.viewR k1 q1)
  exact ⟨_, CallR.post h3 _, h4, fun v H' ⟨z, F', m1, m2, m3, m4⟩ => ⟨z, r1, G1, F', e1.trans m1, m2, m3, m4⟩⟩
theorem we_b1 {x : Str} {id : String} {Q : Res → Env2 → GD → Prop} (hg : Gl X x) (hm : X.mg x = none) (hv : bootBuiltins x = some (.builtin id)) (h : WE X e r G fun x r1 G1 => ∃ d, VwR r1 G1 x d ∧ CallW1 X (.builtin id) d fun z => Q z r1 G1)
    (hn : x ≠ "__name__" := by decide) (hdb : (x == ("__debug__" : Str)) = false := by decide) (he : starEach [e] X.env = (false, eval e X.env) :: starEach [] X.env := by rfl) (hpl : (backTo pos (starEach [] X.env)).any (·.1) = false := by rfl) :
    WE X (.Call (.Name x p0) [e] [] pos) r G Q := fun F0 T F H σ lk S => Run.of (pe_callB (callU_ok _) hg hm hv (pa_cons peR pa_nil he) hn hdb he hpl) (one1 lk S h)
theorem we_t1 {x : Str} {id : String} {Q : Res → Env2 → GD → Prop} (hg : Gl X x) (hm : X.mg x = none) (hv : bootBuiltins x = some (.type id)) (h : WE X e r G fun x r1 G1 => ∃ d, VwR r1 G1 x d ∧ CallW1 X (.type id) d fun z => Q z r1 G1)
    (hn : x ≠ "__name__" := by decide) (hdb : (x == ("__debug__" : Str)) = false := by decide) (he : starEach [e] X.env = (false, eval e X.env) :: starEach [] X.env := by rfl) (hpl : (backTo pos (starEach [] X.env)).any (·.1) = false := by rfl) :
    WE X (.Call (.Name x p0) [e] [] pos) r G Q := fun F0 T F H σ lk S => Run.of (pe_callTy (callU_ok _) hg hm hv (pa_cons peR pa_nil he) hn hdb he hpl) (one1 lk S h)
theorem c1_flat {f : Value} {d d' : D} {v' : V} (hd : ∀ K F, Rep K F d' v') (h : ∀ F H v, Ex F H → Vw X.K F H d v → ∃ rr, CallR X f rr ∧ ∀ P : VK, P v' H → rr [v] H P) (q : Q (.sh d')) : CallW1 X f d Q :=
  fun F0 T F G H r σ v S h1 => by
    obtain ⟨rr, k1, k2⟩ := h F H v S.bas.fh h1
    exact ⟨rr, k1, k2 _ ⟨.sh d', F, Ex.refl _, S, hd _ _, q⟩⟩
theorem c_len {ds : List D} (q : Q (.sh (.int (ds.length : Nat)))) : CallW1 X (.builtin "len") (.lst ds) Q :=
  c1_flat (d' := .int (ds.length : Nat)) (v' := .int (ds.length : Nat)) (fun _ _ => rfl) (fun F H v ex h => by
    obtain ⟨p, vs, rfl, k1, k2⟩ := h.lst ex
    exact ⟨_, call_len_seq, fun P hp => ⟨p, vs, rfl, .inl (.inl k1), by rw [k2.length]; exact hp⟩⟩) q
theorem c_lenT {ds : List D} (q : Q (.sh (.int (ds.length : Nat)))) : CallW1 X (.builtin "len") (.tup ds) Q :=
  c1_flat (d' := .int (ds.length : Nat)) (v' := .int (ds.length : Nat)) (fun _ _ => rfl) (fun F H v ex h => by
    obtain ⟨p, vs, rfl, k1, k2⟩ := h.tup ex
    exact ⟨_, call_len_seq, fun P hp => ⟨p, vs, rfl, .inr k1, by rw [k2.length]; exact hp⟩⟩) q
theorem c_int {i : Int} (q : Q (.sh (.int i))) : CallW1 X (.type "int") (.int i) Q :=
  c1_flat (d' := .int i) (v' := .int i) (fun _ _ => rfl) (fun F H v ex h => ⟨_, call_int1, fun P hp => .inl ⟨i, by rw [h.int], hp⟩⟩) q
theorem c_intB {i : Bool} (q : Q (.sh (.int (if i then 1 else 0)))) : CallW1 X (.type "int") (.bl i) Q :=
  c1_flat (d' := .int (if i then 1 else 0)) (v' := .int (if i then 1 else 0)) (fun _ _ => rfl) (fun F H v ex h => ⟨_, call_int1, fun P hp => .inr ⟨i, by rw [h.bl], hp⟩⟩) q
theorem c_sum {ns : List Int} (hc : X.calm = true) (q : Q (.sh (.int ns.sum))) : CallW1 X (.builtin "sum") (.lst (ns.map D.int)) Q :=
  c1_flat (d' := .int ns.sum) (v' := .int ns.sum) (fun _ _ => rfl) (fun F H v ex h => by
    obtain ⟨p, vs, rfl, k1, k2⟩ := h.lst ex
    cases k2.ints
    exact ⟨_, cr_sum hc, fun P hp => ⟨p, ns, rfl, .inl k1, hp⟩⟩) q
/-- a new list, a new tuple as the result -/
theorem new_lst {K : PySem.W.Frag} {F0 T F : Hp} {G : GD} {H : Hp} {r : Env2} {σ : L2.St} (S : Sta K F0 T F G H r σ) {ds : List D} {vs : List V} (h : RepL K F ds vs) {p : Addr} (hp : H p = none) {Q : Res → Prop} (q : Q (.fr (.lst ds))) :
    ∃ x F', Ex F F' ∧ Sta K F0 T F' G (upd H p (.lst vs)) r σ ∧ ResOk K T F' G (upd H p (.lst vs)) r σ x (.ref p) ∧ Q x := by
  obtain ⟨f1, f2, f3⟩ := S.bas.freshF hp
  exact ⟨.fr (.lst ds), F, Ex.refl _, S.newH hp, ⟨p, rfl, ⟨vs, upd_same, h⟩, f1, f2, f3, S.freshR hp⟩, q⟩
theorem new_tup {K : PySem.W.Frag} {F0 T F : Hp} {G : GD} {H : Hp} {r : Env2} {σ : L2.St} (S : Sta K F0 T F G H r σ) {ds : List D} {vs : List V} (h : RepL K F ds vs) {p : Addr} (hp : H p = none) {Q : Res → Prop} (q : Q (.sh (.tup ds))) :
    ∃ x F', Ex F F' ∧ Sta K F0 T F' G (upd H p (.tup vs)) r σ ∧ ResOk K T F' G (upd H p (.tup vs)) r σ x (.ref p) ∧ Q x := by
  have ef : Ex F (upd F p (.tup vs)) := Ex.new (S.bas.freshF hp).1
  exact ⟨.sh (.tup ds), upd F p (.tup vs), ef, S.newF hp, ⟨p, vs, rfl, .inl (.inl upd_same), RepL.mono ef _ _ h⟩, q⟩
theorem c_tuple {ds : List D} (q : Q (.sh (.tup ds))) : CallW1 X (.type "tuple") (.lst ds) Q := fun F0 T F G H r σ v S h => by
  obtain ⟨p, vs, rfl, k1, k2⟩ := h.lst S.bas.fh
  exact ⟨_, call_tuple_of, p, vs, rfl, .inl ⟨.inl k1, fun l hl => new_tup S k2 hl q⟩⟩
theorem c_sorted {ns : List Int} (q : Q (.fr (.lst ((isort ns).map D.int)))) : CallW1 X (.builtin "sorted") (.lst (ns.map D.int)) Q := fun F0 T F G H r σ v S h => by
  obtain ⟨p, vs, rfl, k1, k2⟩ := h.lst S.bas.fh
  cases k2.ints
  refine ⟨_, cr_sortedI, p, ns, rfl, .inl k1, fun ns' l p1 p2 hl => ?_⟩
  cases isort_of p1 p2
  exact new_lst S (RepL.of_ints _) hl q
def cutD (xs : List D) (lo hi : Option Int) : List D := (xs.drop (HT.sIx xs.length 0 lo)).take (HT.sIx xs.length xs.length hi - HT.sIx xs.length 0 lo)
theorem cut_rep {K : PySem.W.Frag} {F : Hp} {ds : List D} {vs : List V} (h : RepL K F ds vs) (lo hi : Option Int) : RepL K F (cutD ds lo hi) (cutV vs lo hi) := by
  unfold cutD cutV
  rw [h.length]
  exact (h.drop _).take _
def RunO (X : Cy) (oe : Option Expr) : TO := fun σ H Q => ∀ (pins : List (Addr × Obj)) (s : Shared), Inv X pins σ H s → wpAny (model X.prog X.w) X.A (evalPart oe X.env) (fun u s' => ∃ o H', Inv X pins σ H' s' ∧ IsPart u o ∧ Q o H') X.xe s
theorem poR {oe : Option Expr} : PO X oe (RunO X oe) := ⟨fun pins s _ _ _ I h => h pins s I⟩
def WO (X : Cy) (oe : Option Expr) (r : Env2) (G : GD) (Q : Option Int → Env2 → GD → Prop) : Prop :=
  ∀ (F0 T F H : Hp) (σ : L2.St), Lk X F0 T → Sta X.K F0 T F G H r σ → RunO X oe σ H (fun o H' => ∃ r' G' F', Ex F F' ∧ Sta X.K F0 T F' G' H' r' σ ∧ Q o r' G')
theorem RunO.mono {oe : Option Expr} {σ : L2.St} {H : Hp} {Q Q' : Option Int → Hp → Prop} (h : RunO X oe σ H Q) (k : ∀ v H', Q v H' → Q' v H') : RunO X oe σ H Q' := fun pins s I =>
  wpAny_mono (h pins s I) (fun _ _ ⟨o, H', I', p, q⟩ => ⟨o, H', I', p, k _ H' q⟩) fun _ _ x => x
theorem wo_none {Q : Option Int → Env2 → GD → Prop} (q : Q none r G) : WO X none r G Q := fun F0 T F H σ lk S pins s I => po_none.run pins s σ H _ I ⟨r, G, F, Ex.refl _, S, q⟩
theorem wo_some {Q : Option Int → Env2 → GD → Prop} (h : WE X e r G fun x r1 G1 => ∃ i, vw r1 x = some (.int i) ∧ Q (some i) r1 G1) : WO X (some e) r G Q := fun F0 T F H σ lk S pins s I =>
  (po_some peR).run pins s σ H _ I ((h F0 T F H σ lk S).mono fun v H1 ⟨x, r1, G1, F1, e1, S1, k1, i, q1, q2⟩ => ⟨i, (S1.view k1 q1).int, r1, G1, F1, e1, S1, q2⟩)
def SlW (X : Cy) (d : D) (lo hi : Option Int) (Q : Res → Prop) : Prop :=
  ∀ (F0 T F : Hp) (G : GD) (H : Hp) (r : Env2) (σ : L2.St) (v : V), Sta X.K F0 T F G H r σ → Vw X.K F H d v →
    ∃ rr, L2.SlR X rr ∧ rr v lo hi H (fun v' H' => ∃ x F', Ex F F' ∧ Sta X.K F0 T F' G H' r σ ∧ ResOk X.K T F' G H' r σ x v' ∧ Q x)
def slU (X : Cy) : V → Option Int → Option Int → Hp → VK → Prop := fun x lo hi H Q => ∃ rr, L2.SlR X rr ∧ rr x lo hi H Q
theorem SlR.post {rr : V → Option Int → Option Int → Hp → VK → Prop} (h : L2.SlR X rr) (P : VK) : L2.SlR X (fun x lo hi H Q' => rr x lo hi H P ∧ ∀ v H', P v H' → Q' v H') := fun pins s σ H x v vl vu lo hi sl Q' I rx hs pl pu ⟨q, m⟩ => by
  obtain ⟨T, id, h1, h2, h3⟩ := h pins s σ H x v vl vu lo hi sl P I rx hs pl pu q
  exact ⟨T, id, h1, h2, wpAny_mono h3 (fun _ _ ⟨v, H', I', rl, q⟩ => ⟨v, H', I', rl, m v H' q⟩) fun _ _ x => x⟩
theorem slU_ok : L2.SlR X (slU X) := fun pins s σ H x v vl vu lo hi sl Q I rx hs pl pu ⟨rr, h1, h2⟩ => h1 pins s σ H x v vl vu lo hi sl Q I rx hs pl pu h2
theorem we_slice {lo hi : Option Expr} {p2 : Pos} {Q : Res → Env2 → GD → Prop} (h : WE X a r G fun x r1 G1 => WO X lo r1 G1 fun l r2 G2 => WO X hi r2 G2 fun u r3 G3 => ∃ d, VwR r3 G3 x d ∧ SlW X d l u fun z => Q z r3 G3) :
    WE X (.Subscript a (.Slice lo hi none p2) pos) r G Q := fun F0 T F H σ lk S => Run.of (pe_slice slU_ok peR poR poR) (by
  refine (h F0 T F H σ lk S).mono fun va H1 ⟨x, r1, G1, F1, e1, S1, k1, h1⟩ => ?_
  obtain ⟨F1', e1', S1', hv⟩ := hold S1 k1
  refine (h1 F0 T F1' H1 σ lk S1').mono fun l H2 ⟨r2, G2, F2, e2, S2, h2⟩ => ?_
  refine (h2 F0 T F2 H2 σ lk S2).mono fun u H3 ⟨r3, G3, F3, e3, S3, d, q1, q2⟩ => ?_
  obtain ⟨rr, h3, h4⟩ := q2 F0 T F3 G3 H3 r3 σ va S3 (hv F3 G3 H3 r3 d (e2.trans e3) S3 q1)
  exact ⟨_, SlR.post h3 _, h4, fun v H' ⟨z, F', m1, m2, m3, m4⟩ => ⟨z, r3, G3, F', (((e1.trans e1').trans e2).trans e3).trans m1, m2, m3, m4⟩⟩)
theorem slw_tup {ds : List D} {lo hi : Option Int} (q : Q (.sh (.tup (cutD ds lo hi)))) : SlW X (.tup ds) lo hi Q := fun F0 T F G H r σ v S h => by
  have rp : Rep X.K F (.tup ds) v := by
    rcases h with h | ⟨_, _, h⟩
    · exact h
    · exact h.elim
  obtain ⟨p, vs, rfl, k1, k2⟩ := h.tup S.bas.fh
  refine ⟨_, sl_tupA, p, vs, rfl, k1, fun hw => ?_, fun _ l hl => new_tup S (cut_rep k2 lo hi) hl q⟩
  have ec : cutD ds lo hi = ds := by
    unfold cutD
    rw [← k2.length, hw.1, hw.2]
    simp [k2.length]
  rw [ec] at q
  exact ⟨.sh (.tup ds), F, Ex.refl _, S, rp, q⟩
end
theorem Bas.base {F0 T F : Hp} {G : GD} {H : Hp} {K : PySem.W.Frag} (B : Bas K F0 T F G H) : Bas K F T F G H := ⟨Ex.refl _, fun _ _ h => .inl h, B.fh, B.gh, B.fg, B.gt, B.tk⟩
theorem Bas.back {F0 T F1 : Hp} {G1 : GD} {H1 F : Hp} {G : GD} {H : Hp} {K : PySem.W.Frag} (B : Bas K F0 T F1 G1 H1) (C : Bas K F1 T F G H) : Bas K F0 T F G H :=
  ⟨B.ff.trans C.ff, fun a o h => (C.ft a o h).elim (fun z => B.ft a o z) .inr, C.fh, C.gh, C.fg, C.gt, C.tk⟩
theorem Sta.base {K : PySem.W.Frag} {F0 T F : Hp} {G : GD} {H : Hp} {r : Env2} {σ : L2.St} (S : Sta K F0 T F G H r σ) : Sta K F T F G H r σ := ⟨S.bas.base, S.len, S.sl, S.ap⟩
theorem Sta.back {K : PySem.W.Frag} {F0 T F1 : Hp} {G1 : GD} {H1 F : Hp} {G : GD} {H : Hp} {r : Env2} {σ : L2.St} (B : Bas K F0 T F1 G1 H1) (S : Sta K F1 T F G H r σ) : Sta K F0 T F G H r σ := ⟨B.back S.bas, S.len, S.sl, S.ap⟩
theorem at_back {K : PySem.W.Frag} {F0 T F1 : Hp} {G1 : GD} {H1 : Hp} (B : Bas K F0 T F1 G1 H1) {Q : Env2 → GD → Prop} {σ : L2.St} {H : Hp} (h : PostN K F1 T Q σ H) : PostN K F0 T Q σ H := by
  obtain ⟨r, G, F, S, q⟩ := h
  exact ⟨r, G, F, S.back B, q⟩
theorem rt_back {K : PySem.W.Frag} {F0 T F1 : Hp} {G1 : GD} {H1 : Hp} (B : Bas K F0 T F1 G1 H1) {Q : Res → GD → Prop} {v : V} {H : Hp} (h : PostR K F1 T Q v H) : PostR K F0 T Q v H := by
  obtain ⟨x, G, F, C, k, q⟩ := h
  exact ⟨x, G, F, B.back C, k, q⟩
def RunG (X : Cx) (tg : Expr) : TG := fun v σ H Q => ∀ (pins : List (Addr × Obj)) (s : Shared) (u : Value), Inv X pins σ H s → RelV v u → wpAny (model X.prog X.w) X.A (assign tg X.env u) (fun _ s' => ∃ σ' H', Inv X pins σ' H' s' ∧ Q σ' H') X.xe s
theorem pgR {X : Cx} {tg : Expr} : PG X tg (RunG X tg) := ⟨fun pins s σ H v u Q I rv h => h pins s u I rv⟩
/-- frozen data goes to a target; σ' differs from σ in the slots is alone -/
def WG (X : Cy) (tg : Expr) (d : D) (r : Env2) (G : GD) (is : List Nat) (Q : Env2 → GD → Prop) : Prop :=
  ∀ (F0 T F H : Hp) (σ : L2.St) (v : V), Lk X F0 T → Sta X.K F0 T F G H r σ → Rep X.K F d v → RunG X tg v σ H (fun σ' H' => wipe σ' is = wipe σ is ∧ ∃ r' G' F', Ex F F' ∧ Sta X.K F0 T F' G' H' r' σ' ∧ Q r' G')
theorem wipe_set {σ : L2.St} {i : Nat} {x : Option V} : ∀ {is : List Nat}, i ∈ is → wipe (σ.set i x) is = wipe σ is
  | [], h => by simp at h
  | j :: is, h => by
    unfold wipe
    by_cases hm : i ∈ is
    · rw [wipe_set hm]
    · have hj : i = j := by
        rcases List.mem_cons.mp h with z | z
        · exact z
        · exact absurd z hm
      subst hj
      have aux : ∀ (is : List Nat), i ∉ is → wipe (σ.set i x) is = (wipe σ is).set i x := by
        intro is
        induction is with
        | nil => intro _; rfl
        | cons k is ih =>
          intro hk
          unfold wipe
          rw [ih (fun z => hk (List.mem_cons_of_mem _ z)), List.set_comm _ _ (fun z => hk (by rw [z]; exact List.mem_cons_self))]
      rw [aux is hm, List.set_set]
section
variable {X : Cy} {e a b c o tg : Expr} {es : List Expr} {st : Stmt} {sts rest body orelse : List Stmt} {r : Env2} {G : GD} {pos p0 : Pos} {D0 : EndsD}
theorem wg_name (i : Nat) {x : Str} {d : D} {is : List Nat} {Q : Env2 → GD → Prop} (hN : X.N.Nodup) (hi : X.N[i]? = some x) (hx : Loc X.env.scope x) (hm : i ∈ is) (hl : i < r.length) (q : Q (r.set i (.sh d)) G) (hf : X.fn x = true ∨ X.env.scope.names.lookup x = some .local := by first | exact .inl rfl | exact .inr rfl | assumption) :
    WG X (.Name x pos) d r G is Q := fun F0 T F H σ v lk S rp pins s u I rv => by
  refine (pg_name hN hi hx hf).run pins s σ H v u _ I rv ⟨wipe_set hm, r.set i (.sh d), G, F, Ex.refl _, S.set hl ⟨v, rfl, rp⟩ (fun d' z => nomatch z), q⟩
theorem fold_wipe : ∀ (ixs : List Nat) (vs : List V) (σ : L2.St) {is : List Nat}, (∀ i ∈ ixs, i ∈ is) → wipe ((ixs.zip vs).foldl (fun s p => s.set p.1 (some p.2)) σ) is = wipe σ is
  | [], _, _, _, _ => by simp
  | _ :: _, [], _, _, _ => by simp
  | i :: ixs, v :: vs, σ, is, h => by
    rw [List.zip_cons_cons, List.foldl_cons, fold_wipe ixs vs _ fun j hj => h j (List.mem_cons_of_mem _ hj)]
    exact wipe_set (h i List.mem_cons_self)
theorem wg_tup {ts : List Expr} {k : Nat} (ixs : List Nat) {ds : List D} {is : List Nat} {Q : Env2 → GD → Prop} (hc : X.calm = true) (hp : All2 (fun t i => PG X t (gName i)) ts ixs) (hst : ∀ t ∈ ts, ∀ us, (assignEach (t :: us) X.env).map (·.2) = assign t X.env :: (assignEach us X.env).map (·.2))
    (hm : ∀ i ∈ ixs, i ∈ is) (hl : ds.length = ixs.length) (hr : ∀ i ∈ ixs, i < r.length) (q : Q (setAll r ixs ds) G) (hn : (assignEach ts X.env).length = ixs.length := by rfl) (hf : (assignEach ts X.env).findIdx? (·.1) = none := by rfl) :
    WG X (.Tuple ts k pos) (.tup ds) r G is Q := fun F0 T F H σ v lk S rp pins s u I rv => by
  obtain ⟨a, vs, rfl, z1, z2⟩ := rp
  refine (pg_tup hc (pgs_run hp hst) hn hf).run pins s σ H _ u _ I rv ⟨a, vs, rfl, S.bas.fh.sqT z1, by rw [z2.length]; exact hl, by rw [z2.length]; exact hl, fold_wipe ixs vs σ hm, _, G, F, Ex.refl _, S.setAll ixs ds vs z2 hl.symm hr, q⟩
/-- a turn of a loop: the item goes to the target, the body runs -/
theorem turn1 {d : D} {v : V} {is : List Nat} {F0 T Fa : Hp} {Ga : GD} {Ha F H : Hp} {σ : L2.St} {I : Env2 → GD → Prop} (lk : Lk X F0 T) (B : Bas X.K F0 T Fa Ga Ha) (S : Sta X.K Fa T F G H r σ) (rp : Rep X.K F d v) (h : WG X tg d r G is fun r1 G1 => WB X body r1 G1 { D0 with nx := I, ct := I, bk := D0.nx }) {P : L2.St → Hp → Prop}
    (hP : ∀ σ' H', PostN X.K Fa T I σ' H' → P σ' H') : RunG X tg v σ H fun σ2 H2 => RunB X body { D0.at X.K F0 T with nx := P, ct := P, bk := (D0.at X.K F0 T).nx } σ2 H2 := fun pins s u J rv => by
  refine wpAny_mono (h Fa T F H σ v (lk.base B) S rp pins s u J rv) (fun _ s' ⟨σ', H', J', _, r', G', F', e', S', q⟩ => ⟨σ', H', J', ?_⟩) fun _ _ x => x
  exact (q Fa T F' H' σ' (lk.base B) S').mono hP (fun v H z => rt_back B z) (fun σ H z => at_back B z) hP
/-- J yields the data ds, while what is frozen at Fa stays -/
def ItD (K : PySem.W.Frag) (J : It) (Fa : Hp) (ds : List D) : Prop := ∀ (F H : Hp), Ex Fa F → Ex F H → J.stop ds.length H ∧ ∀ (i : Nat) (d : D), ds[i]? = some d → J.go i H ∧ ∀ x H', J.yld i H x H' →
  (H' = H ∧ Rep K F d x) ∨ ∃ p o, H p = none ∧ H' = upd H p o ∧ x = .ref p ∧ Rep K (upd F p o) d (.ref p)
theorem ItD.mono {K : PySem.W.Frag} {J : It} {F F' : Hp} {ds : List D} (e : Ex F F') (h : ItD K J F ds) : ItD K J F' ds := fun F2 H e1 e2 => h F2 H (e.trans e1) e2
/-- a yielded item, over a state -/
theorem ItD.item {K : PySem.W.Frag} {J : It} {Fa F0 T F : Hp} {G : GD} {H H' : Hp} {r : Env2} {σ : L2.St} {ds : List D} {i : Nat} {d : D} {x : V} (h : ItD K J Fa ds) (ea : Ex Fa F) (S : Sta K F0 T F G H r σ) (hi : ds[i]? = some d) (y : J.yld i H x H') :
    ∃ F', Ex F F' ∧ Sta K F0 T F' G H' r σ ∧ Rep K F' d x := by
  obtain ⟨_, h2⟩ := h F H ea S.bas.fh
  rcases (h2 i d hi).2 x H' y with ⟨rfl, rp⟩ | ⟨p, o, hp, rfl, rfl, rp⟩
  · exact ⟨F, Ex.refl _, S, rp⟩
  · exact ⟨upd F p o, Ex.new (S.bas.freshF hp).1, S.newF hp, rp⟩
def RunI (X : Cx) (tg e : Expr) : TI := fun σ H R => ∀ (pins : List (Addr × Obj)) (s : Shared), Inv X pins σ H s → wpAny (model X.prog X.w) X.A (eval e X.env) (fun v s1 => wpAny (model X.prog X.w) X.A (pyIter v) (PIE X pins σ tg R) X.xe s1) X.xe s
theorem piR {X : Cx} {tg e : Expr} : PI X tg e (RunI X tg e) := ⟨fun pins s _ _ _ I h => h pins s I⟩
theorem RunI.of {X : Cx} {tg e : Expr} {wi : TI} {σ : L2.St} {H : Hp} {R : It → Hp → Prop} (h : PI X tg e wi) (q : wi σ H R) : RunI X tg e σ H R := fun pins s I => h.run pins s σ H R I q
theorem RunI.mono {X : Cx} {tg e : Expr} {σ : L2.St} {H : Hp} {R R' : It → Hp → Prop} (h : RunI X tg e σ H R) (k : ∀ J H', R J H' → R' J H') : RunI X tg e σ H R' := fun pins s I =>
  wpAny_mono (h pins s I) (fun _ _ q => wpAny_mono q (fun _ _ ⟨it, fp, tn, J, H', a, b, c, d, e, f⟩ => ⟨it, fp, tn, J, H', a, b, c, d, e, k _ _ f⟩) fun _ _ x => x) fun _ _ x => x
/-- the iterable e yields data -/
def WI (X : Cy) (tg e : Expr) (r : Env2) (G : GD) (Q : List D → Env2 → GD → Prop) : Prop :=
  ∀ (F0 T F H : Hp) (σ : L2.St), Lk X F0 T → Sta X.K F0 T F G H r σ → RunI X tg e σ H fun J H' => ∃ ds r' G' F', Ex F F' ∧ Sta X.K F0 T F' G' H' r' σ ∧ ItD X.K J F' ds ∧ Q ds r' G'
theorem WI.mono {Q Q' : List D → Env2 → GD → Prop} (h : WI X tg e r G Q) (k : ∀ x r' G', Q x r' G' → Q' x r' G') : WI X tg e r G Q' := fun F0 T F H σ lk S =>
  (h F0 T F H σ lk S).mono fun _ _ ⟨x, r', G', F', a, b, c, q⟩ => ⟨x, r', G', F', a, b, c, k _ _ _ q⟩
theorem wi_lst {Q : List D → Env2 → GD → Prop} (h : WE X e r G fun x r1 G1 => ∃ ds r2, fz r1 x = some (.lst ds, r2) ∧ (ds.length ≤ LIM → Q ds r2 G1)) : WI X tg e r G Q := fun F0 T F H σ lk S =>
  RunI.of (pi_list peR) ((h F0 T F H σ lk S).bl.mono fun v H1 ⟨bl, x, r1, G1, F1, e1, S1, k1, ds, r2, q1, q2⟩ => by
    obtain ⟨Fa, e2, Sa, rp⟩ := S1.fz k1 q1
    obtain ⟨a, vs, rfl, z1, z2⟩ := rp
    have hlim : ds.length ≤ LIM := by rw [← z2.length]; exact bl.1 a vs (.inl (Sa.bas.fh.rd z1))
    refine ⟨a, rfl, ⟨vs, .inl (Sa.bas.fh.rd z1)⟩, ds, r2, G1, Fa, e1.trans e2, Sa, fun F H ea eh => ⟨⟨vs, .inl (eh.rd (ea.rd z1)), by rw [z2.length]; exact Nat.le_refl _⟩, fun i d hi => ?_⟩, q2 hlim⟩
    obtain ⟨v, h1, h2⟩ := z2.get hi
    exact ⟨⟨vs, v, .inl (eh.rd (ea.rd z1)), h1⟩, fun x H' ⟨y1, y2⟩ => .inl ⟨y1, by
      have := y2 vs (.inl (eh.rd (ea.rd z1)))
      rw [h1] at this; cases this
      exact Rep.mono ea _ _ h2⟩⟩)
theorem wi_tup {Q : List D → Env2 → GD → Prop} (h : WE X e r G fun x r1 G1 => ∃ ds r2, fz r1 x = some (.tup ds, r2) ∧ (ds.length ≤ LIM → Q ds r2 G1)) : WI X tg e r G Q := fun F0 T F H σ lk S =>
  RunI.of (pi_tup peR) ((h F0 T F H σ lk S).bl.mono fun v H1 ⟨bl, x, r1, G1, F1, e1, S1, k1, ds, r2, q1, q2⟩ => by
    obtain ⟨Fa, e2, Sa, rp⟩ := S1.fz k1 q1
    obtain ⟨a, vs, rfl, z1, z2⟩ := rp
    have hlim : ds.length ≤ LIM := by rw [← z2.length]; exact bl.2.1 a vs (Sa.bas.fh.sqT z1)
    refine ⟨a, rfl, ⟨vs, Sa.bas.fh.sqT z1⟩, ds, r2, G1, Fa, e1.trans e2, Sa, fun F H ea eh => ⟨⟨vs, eh.sqT (ea.sqT z1), by rw [z2.length]; exact Nat.le_refl _⟩, fun i d hi => ?_⟩, q2 hlim⟩
    obtain ⟨v, h1, h2⟩ := z2.get hi
    exact ⟨⟨vs, v, eh.sqT (ea.sqT z1), h1⟩, fun x H' ⟨y1, y2⟩ => .inl ⟨y1, by
      have := y2 vs (eh.sqT (ea.sqT z1))
      rw [h1] at this; cases this
      exact Rep.mono ea _ _ h2⟩⟩)
def rgI (a b : Int) : List Int := (List.range (b - a).toNat).map fun i => a + (i : Nat)
theorem rgI_length (a b : Int) : (rgI a b).length = (b - a).toNat := by unfold rgI; rw [List.length_map, List.length_range]
theorem rgI_get {a b : Int} {i : Nat} {x : Int} (h : (rgI a b)[i]? = some x) : i < (b - a).toNat ∧ x = a + (i : Nat) := by
  unfold rgI at h
  rw [List.getElem?_map] at h
  cases q : (List.range (b - a).toNat)[i]? with
  | none => rw [q] at h; cases h
  | some j =>
    rw [q] at h
    obtain ⟨z1, z2⟩ := List.getElem?_eq_some_iff.mp q
    rw [List.length_range] at z1
    rw [List.getElem_range] at z2
    subst z2
    exact ⟨z1, by simpa using h.symm⟩
theorem itd_range {K : PySem.W.Frag} {Fa : Hp} {lo hi : Int} {n : Nat} (hn : n = (hi - lo).toNat) : ItD K (Itr lo n) Fa ((rgI lo hi).map D.int) := fun F H ea eh =>
  ⟨by rw [List.length_map, rgI_length, ← hn]; exact Nat.le_refl _, fun i d hd => by
    rw [List.getElem?_map] at hd
    cases q : (rgI lo hi)[i]? with
    | none => rw [q] at hd; cases hd
    | some x =>
      rw [q] at hd
      obtain ⟨z1, rfl⟩ := rgI_get q
      cases hd
      exact ⟨by rw [hn]; exact z1, fun y H' ⟨y1, y2⟩ => .inl ⟨y1, y2⟩⟩⟩
abbrev RG (n : Int) : Prop := -(2 ^ 62) ≤ n ∧ n < 2 ^ 62
theorem wi_rng1 {Q : List D → Env2 → GD → Prop} (hg : Gl X "range") (hm : X.mg "range" = none)
    (h : WE X a r G fun x r1 G1 => ∃ n, vw r1 x = some (.int n) ∧ RG n ∧ Q ((rgI 0 n).map D.int) r1 G1) (hst : starEach [a] X.env = [(false, eval a X.env)] := by rfl) : WI X tg (.Call (.Name "range" p0) [a] [] pos) r G Q := fun F0 T F H σ lk S =>
  RunI.of (pi_range1 hg hm (pa_cons peR pa_nil hst) hst) ((h F0 T F H σ lk S).mono fun v H1 ⟨x, r1, G1, F1, e1, S1, k1, n, q1, hn, q2⟩ =>
    ⟨n, by rw [(S1.view k1 q1).int], hn.1, hn.2, _, r1, G1, F1, e1, S1, itd_range (by rw [Int.sub_zero]), q2⟩)
theorem ws_for {is : List Nat} (hp : PassesOwn (model X.prog X.w) X.A X.env X.xe) (hc : X.calm = true)
    (h : WI X tg e r G fun ds r2 G1 => ∃ I : Nat → Env2 → GD → Prop, I 0 r2 G1 ∧ (∀ (k : Nat) (d : D) (r3 : Env2) (G3 : GD), ds[k]? = some d → I k r3 G3 → WG X tg d r3 G3 is fun r4 G4 => WB X body r4 G4 { D0 with nx := I (k + 1), ct := I (k + 1), bk := D0.nx }) ∧
      ∀ r3 G3, I ds.length r3 G3 → D0.nx r3 G3) (hs : ∀ x, foldedSetIterable e X.env x = pure x := by intro _; rfl) : WS X (.For tg e body [] pos) r G D0 := fun F0 T F H σ lk S =>
  RunS.of (ps_for hp hc piR pgR pbR hs) ((h F0 T F H σ lk S).mono fun J H1 ⟨ds, r2, G1, Fa, e1, Sa, hJ, I, i0, it, ie⟩ => by
    refine ⟨fun i m σ' H' => m = ds.length - i ∧ i ≤ ds.length ∧ PostN X.K Fa T (I i) σ' H', ⟨ds.length, by simp, Nat.zero_le _, r2, G1, Fa, Sa.base, i0⟩, ?_⟩
    rintro i m σ' H' ⟨rfl, hi, r', G', F', S', q'⟩
    obtain ⟨j1, j2⟩ := hJ F' H' S'.bas.ff S'.bas.fh
    by_cases hlt : i < ds.length
    · obtain ⟨j3, _⟩ := j2 i ds[i] (List.getElem?_eq_getElem hlt)
      refine .inr ⟨j3, fun σ' H' => PostN X.K Fa T (I (i + 1)) σ' H', fun σ2 H2 p2 => ⟨ds.length - (i + 1), by omega, rfl, hlt, p2⟩, fun x H2 y => ?_⟩
      obtain ⟨F2, ef, S2, rp⟩ := hJ.item S'.bas.ff S' (List.getElem?_eq_getElem hlt) y
      exact turn1 lk Sa.bas S2 rp (it i ds[i] r' G' (List.getElem?_eq_getElem hlt) q') fun _ _ z => z
    · have e : i = ds.length := by omega
      subst e
      exact .inl ⟨j1, at_back Sa.bas ⟨r', G', F', S', ie r' G' q'⟩⟩)
/-- while, by a word and a measure -/
theorem ws_while (hp : PassesOwn (model X.prog X.w) X.A X.env X.xe) (I : Nat → Env2 → GD → Prop) (m0 : Nat) (i0 : I m0 r G)
    (h : ∀ (m : Nat) (r1 : Env2) (G1 : GD), I m r1 G1 → WT X c r1 G1 fun d r2 G2 => (d = true → WB X body r2 G2 { D0 with nx := fun r3 G3 => ∃ m', m' < m ∧ I m' r3 G3, ct := fun r3 G3 => ∃ m', m' < m ∧ I m' r3 G3, bk := D0.nx }) ∧ (d = false → D0.nx r2 G2)) : WS X (.While c body [] pos) r G D0 := fun F0 T F H σ lk S =>
  RunS.of (ps_while hp ptR pbR) ⟨fun m σ' H' => PostN X.K F0 T (I m) σ' H', ⟨m0, r, G, F, S, i0⟩, fun m σ' H' ⟨r', G', F', S', q'⟩ => by
    refine (h m r' G' q' F0 T F' H' σ' lk S').mono fun d H2 ⟨r2, G2, F2, e2, S2, q1, q2⟩ => ?_
    cases d with
    | true =>
      rw [if_pos rfl]
      exact ⟨PostN X.K F0 T fun r3 G3 => ∃ m', m' < m ∧ I m' r3 G3, fun σ3 H3 ⟨r3, G3, F3, S3, m', hm, q3⟩ => ⟨m', hm, r3, G3, F3, S3, q3⟩, q1 rfl F0 T F2 H2 σ' lk S2⟩
    | false =>
      rw [if_neg Bool.false_ne_true]
      exact ⟨r2, G2, F2, S2, q2 rfl⟩⟩
abbrev FSp := List D → GD → (Res → GD → Prop) → (Exn → GD → Prop) → Prop
/-- what others hold at a call -/
def Tof (G : GD) (H : Hp) : Hp := fun a => match G a with
  | none => H a
  | some _ => none
theorem Tof_none {G : GD} {H : Hp} {a : Addr} (h : G a = none) : Tof G H a = H a := by unfold Tof; rw [h]
theorem Tof_some {G : GD} {H : Hp} {a : Addr} {o : D} (h : G a = some o) : Tof G H a = none := by unfold Tof; rw [h]
/-- a def's promise over data -/
def spD (K : PySem.W.Frag) (f : FSp) : Sp := fun vs H Q E => ∃ (F : Hp) (G : GD) (ds : List D) (post : Res → GD → Prop) (px : Exn → GD → Prop), Ex F H ∧ (∀ a d, G a = some d → Own K F H a d) ∧ (∀ a o, G a = some o → F a = none) ∧ RepL K F ds vs ∧ f ds G post px ∧
  (∀ x G' v H' F', post x G' → Bas K F (Tof G H) F' G' H' → RtOk K (Tof G H) F' G' H' x v → Q v H') ∧ ∀ x cls d G' H' F', px x G' → Bas K F (Tof G H) F' G' H' → ExOk K F' cls d x → E cls d H'
/-- behind a call the caller's state stands -/
theorem Sta.after {K : PySem.W.Frag} {F0 T F : Hp} {G : GD} {H F' : Hp} {G' : GD} {H' : Hp} {r : Env2} {σ : L2.St} (S : Sta K F0 T F G H r σ) (B : Bas K F (Tof G H) F' G' H') : Sta K F0 T F' G' H' r σ := by
  have tt : ∀ a o, T a = some o → Tof G H a = some o := fun a o h => by
    have hg : G a = none := by
      cases e : G a with
      | none => rfl
      | some u => rw [S.bas.gt a u e] at h; cases h
    rw [Tof_none hg]
    exact S.bas.tk a o h
  refine S.grow ⟨S.bas.ff.trans B.ff, fun a o h => ?_, B.fh, B.gh, B.fg, fun a o h => ?_, fun a o h => B.tk a o (tt a o h)⟩ B.ff fun p h1 h2 h3 ⟨u, hu⟩ => ?_
  · rcases B.ft a o h with z | z
    · exact S.bas.ft a o z
    · cases e : T a with
      | none => exact .inr rfl
      | some u => rw [tt a u e] at z; cases z
  · cases e : T a with
    | none => rfl
    | some u =>
      have z := B.gt a o h
      rw [tt a u e] at z; cases z
  · have hT : Tof G H p = some u := by rw [Tof_none h2]; exact hu
    refine ⟨fun o ho => by rw [hu] at ho; cases ho; exact B.tk p u hT, ?_, ?_, h3⟩
    · cases e : F' p with
      | none => rfl
      | some w =>
        rcases B.ft p w e with z | z
        · rw [h1] at z; cases z
        · rw [hT] at z; cases z
    · cases e : G' p with
      | none => rfl
      | some w => have z := B.gt p w e; rw [hT] at z; cases z
theorem ResOk.after {K : PySem.W.Frag} {F0 T F : Hp} {G : GD} {H F' : Hp} {G' : GD} {H' : Hp} {r : Env2} {σ : L2.St} {x : Res} {v : V} (S : Sta K F0 T F G H r σ) (B : Bas K F (Tof G H) F' G' H') (h : RtOk K (Tof G H) F' G' H' x v) : ResOk K T F' G' H' r σ x v := by
  cases x with
  | sh d => exact h
  | pk i => exact h.elim
  | fr d =>
    obtain ⟨p, rfl, h2, h3, h4, h5⟩ := h
    refine ⟨p, rfl, h2, h3, h4, ?_, fun i e he z => ?_⟩
    · cases e : T p with
      | none => rfl
      | some u =>
        have hg : G p = none := by
          cases eg : G p with
          | none => rfl
          | some w => rw [S.bas.gt p w eg] at e; cases e
        rw [Tof_none hg, S.bas.tk p u e] at h5; cases h5
    · obtain ⟨q, z1, z2, z3, z4, z5⟩ := S.ownS he
      rw [z] at z1; cases z1
      obtain ⟨o, ho⟩ := z2.there
      rw [Tof_none z4, ho] at h5; cases h5
/-- a promise met from a state -/
theorem spD_of {F0 T F F1 H : Hp} {σ : L2.St} {sp : FSp} {ds : List D} {vs : List V} {Q : Res → Env2 → GD → Prop} (lk : Lk X F0 T) (S : Sta X.K F0 T F1 G H r σ) (e1 : Ex F F1) (ha : RepL X.K F1 ds vs) (h : sp ds G (fun z G2 => Q z r G2) (fun x G2 => X.QX x r G2)) : spD X.K sp vs H (PostE X.K F0 T F σ Q) (L2.WE X.WX σ) :=
  ⟨F1, G, ds, _, _, S.bas.fh, S.bas.gh, S.bas.fg, ha, h, fun x G' v H' F' hp B rt => ⟨x, r, G', F', e1.trans B.ff, S.after B, ResOk.after S B rt, hp⟩, fun x cls d G' H' F' hp B ex => ⟨r, G', F', x, lk.sta (S.after B), ex, hp⟩⟩
theorem we_call {f : Addr} {fd : FuncData} {ps : List Str} {sp : FSp} {k : Nat} {x : Str} {Q : Res → Env2 → GD → Prop} (tk : X.Tk) (Fo : FnOk X.prog X.w X.K X.mg X.base (CX X.prog X.w) k f fd ps (spD X.K sp)) (hr : Room k X.A) (hg : Gl X x) (hm : X.mg x = some (.ref f)) (hk : PySem.W.keepIn X.K (.ref f) = true) (hb : Binds X.K fd ps [])
    (h : WA X (e :: es) r G fun ds r1 G1 => sp ds G1 (fun z G2 => Q z r1 G2) (fun x G2 => X.QX x r1 G2))
    (hdb : (x == ("__debug__" : Str)) = false := by decide) (he : starEach (e :: es) X.env = (false, eval e X.env) :: starEach es X.env := by rfl) (hpl : (backTo pos (starEach es X.env)).any (·.1) = false := by rfl) : WE X (.Call (.Name x p0) (e :: es) [] pos) r G Q := fun F0 T F H σ lk S =>
  Run.of (pe_callS Fo hr hg hm hk hb (fun σ => passAt tk σ) paR hdb he hpl) ((h F0 T F H σ lk S).mono fun vs H1 ⟨ds, r1, G1, F1, e1, S1, k1, q⟩ => spD_of lk S1 e1 k1 q)
end
def startD (N : List Str) (ds : List D) : Env2 := ds.map .sh ++ List.replicate (N.length - ds.length) .no
theorem sta_start {K : PySem.W.Frag} {F : Hp} {G : GD} {H : Hp} {N : List Str} {ds : List D} {vs : List V} (hl : ds.length ≤ N.length) (e1 : Ex F H) (e2 : ∀ a d, G a = some d → Own K F H a d) (e3 : ∀ a o, G a = some o → F a = none) (h : RepL K F ds vs) : Sta K F (Tof G H) F G H (startD N ds) (L2.start N vs) := by
  have hv := h.length
  refine ⟨⟨Ex.refl _, fun _ _ z => .inl z, e1, e2, e3, fun a o z => Tof_some z, fun a o z => ?_⟩, ?_, fun i s z => ?_, fun i j d e _ z => ?_⟩
  · unfold Tof at z
    split at z
    · exact z
    · cases z
  · unfold startD L2.start
    simp only [List.length_append, List.length_map, List.length_replicate, hv]
  · unfold startD at z
    by_cases hi : i < ds.length
    · rw [List.getElem?_append_left (by simpa using hi), List.getElem?_map, List.getElem?_eq_getElem hi] at z
      cases z
      obtain ⟨v, q1, q2⟩ := h.get (List.getElem?_eq_getElem hi)
      refine ⟨v, ?_, q2⟩
      unfold L2.start
      rw [List.getElem?_append_left (by rw [List.length_map, hv]; exact hi), List.getElem?_map, q1]
      rfl
    · rw [List.getElem?_append_right (by simpa using hi), List.getElem?_replicate] at z
      split at z
      · cases z; trivial
      · cases z
  · exfalso
    unfold startD at z
    by_cases hi : i < ds.length
    · rw [List.getElem?_append_left (by simpa using hi), List.getElem?_map, List.getElem?_eq_getElem hi] at z
      cases z
    · rw [List.getElem?_append_right (by simpa using hi), List.getElem?_replicate] at z
      split at z
      · cases z
      · cases z
section
variable {P : Program} {w : World} {K : PySem.W.Frag} {mg : Str → Option Value} {base : Heap}
/-- the context of a def's body -/
def cyOf (P : Program) (w : World) (K : PySem.W.Frag) (mg : Str → Option Value) (base : Heap) (N : List Str) (qual : Str) (scope : Scope) (f : Addr) (cd : Value) (A : Around) (outer : List Env) (s : Shared) (H : Hp) (E : XK) (F T : Hp) (px : Exn → GD → Prop) : Cy :=
  { L2.cxOf (L2.CX P w) P w K mg base N qual scope f cd A outer s H E with F0 := F, T := T, QX := fun x _ G => px x G }
theorem def_ok {x qual : Str} {st : Stmt} {f : Addr} {fd : FuncData} {N ps : List Str} {k : Nat} {sp : FSp} (Fo : Fun K x qual st f fd) (S : FnScope N ps (defScope st)) (len : ∀ ds G post px, sp ds G post px → ds.length = ps.length)
    (hbody : ∀ (cdv : Value) (A : Around) (outer : List Env) (s : Shared) (H : Hp) (E : XK) (F T : Hp), Room k (A.deeper (envOfC qual (defScope st) s.heap.objs.size f cdv)) → ∀ (ds : List D) (G : GD) (post : Res → GD → Prop) (px : Exn → GD → Prop), sp ds G post px →
      (cyOf P w K mg base N qual (defScope st) f cdv A outer s H E F T px).Tk → PassesOwn (model P w) (cyOf P w K mg base N qual (defScope st) f cdv A outer s H E F T px).A (cyOf P w K mg base N qual (defScope st) f cdv A outer s H E F T px).env (cyOf P w K mg base N qual (defScope st) f cdv A outer s H E F T px).xe →
      WB (cyOf P w K mg base N qual (defScope st) f cdv A outer s H E F T px) (defBody st) (startD N ds) G { nx := fun _ G' => post (.sh .non) G', rt := post }) : FnOk P w K mg base (L2.CX P w) (k + 1) f fd ps (spD K sp) := by
  refine Fo.okX S (fun vs H Q E h => ?_) (fun cdv A outer s H vs Q E hr h => ?_)
  · obtain ⟨F, G, ds, post, px, _, _, _, rp, hf, _⟩ := h
    rw [rp.length, len ds G post px hf]
  · obtain ⟨F, G, ds, post, px, e1, e2, e3, rp, hf, hq, hx⟩ := h
    have hl : ds.length ≤ N.length := by
      rw [len ds G post px hf]
      have := congrArg List.length S.pre
      rw [List.length_take] at this
      omega
    refine ⟨RunB _ (defBody st), pbR, ?_⟩
    have tk : (cyOf P w K mg base N qual (defScope st) f cdv A outer s H E F (Tof G H) px).Tk := (takes_of (E := E) rfl rfl rfl rfl).imp fun cls d σ H' ⟨r, G', F', x, S', ex, q⟩ => hx x cls d G' H' F' q S'.bas ex
    refine (hbody cdv A outer s H E F (Tof G H) hr ds G post px hf tk (passes_of rfl) F (Tof G H) F H (L2.start N vs) ⟨Ex.refl _, Ex.refl _, fun _ _ z => .inl z⟩ (sta_start hl e1 e2 e3 rp)).mono (fun σ' H' ⟨r', G', F', S', q⟩ => ?_) (fun v H' ⟨x, G', F', B, rt, q⟩ => hq x G' v H' F' q B rt) (fun _ _ ⟨_, _, _, _, q⟩ => q) (fun _ _ ⟨_, _, _, _, q⟩ => q)
    exact hq (.sh .non) G' .non H' F' q S'.bas rfl
end
theorem Sta.mut {K : PySem.W.Frag} {F0 T F : Hp} {G : GD} {H : Hp} {r : Env2} {σ : L2.St} (S : Sta K F0 T F G H r σ) {i : Nat} {d0 : D} (h : r[i]? = some (.own d0)) :
    ∃ p, σ[i]? = some (some (.ref p)) ∧ Own K F H p d0 ∧ F p = none ∧ ∀ (o' : HO) (d' : D), Own K F (upd H p o') p d' → Sta K F0 T F G (upd H p o') (r.set i (.own d')) σ := by
  obtain ⟨p, h1, h2, h3, h4, h5⟩ := S.ownS h
  have hi : i < r.length := (List.getElem?_eq_some_iff.mp h).1
  refine ⟨p, h1, h2, h3, fun o' d' ho => ⟨S.bas.put h3 h4 h5, by rw [List.length_set]; exact S.len, fun j s e => ?_, fun j k d e hjk ej ek => ?_⟩⟩
  · by_cases hj : i = j
    · subst hj
      rw [List.getElem?_set_self hi] at e
      cases e
      exact ⟨p, h1, ho, h3, h4, h5⟩
    · rw [List.getElem?_set_ne hj] at e
      have q := S.sl j s e
      cases s with
      | no => trivial
      | sh d => exact q
      | own d =>
        obtain ⟨p', q1, q2, q3, q4, q5⟩ := q
        have hpp : p' ≠ p := fun z => by
          subst z
          exact S.ap i j d0 d hj h e (h1.trans q1.symm)
        exact ⟨p', q1, q2.mono (Ex.refl _) fun u hu => by rw [upd_ne hpp]; exact hu, q3, q4, q5⟩
  · have own : ∀ (m : Nat) (x : D), (r.set i (.own d'))[m]? = some (.own x) → ∃ y, r[m]? = some (.own y) := fun m x hm => by
      by_cases hm2 : i = m
      · subst hm2; exact ⟨d0, h⟩
      · rw [List.getElem?_set_ne hm2] at hm; exact ⟨x, hm⟩
    obtain ⟨y1, hy1⟩ := own j d ej
    obtain ⟨y2, hy2⟩ := own k e ek
    exact S.ap j k y1 y2 hjk hy1 hy2
section
variable {X : Cy} {e e2 a b c o tg : Expr} {es : List Expr} {st : Stmt} {sts rest body orelse : List Stmt} {r : Env2} {G : GD} {pos apos cpos p0 : Pos} {D0 : EndsD}
/-- what a method does to an own list: the answer, the new content -/
def MutW (X : Cy) (id : String) (ds args : List D) (Kt : D → List D → Prop) : Prop :=
  ∀ (F H : Hp) (p : Addr) (vs us : List V), H p = some (.lst vs) → F p = none → Ex F H → RepL X.K F ds vs → RepL X.K F args us →
    ∃ rr, MtR X id rr ∧ rr (.ref p) us H (fun v' H' => ∃ vs' res ds', H' = upd H p (.lst vs') ∧ Rep X.K F res v' ∧ RepL X.K F ds' vs' ∧ Kt res ds')
def mtU (X : Cy) (id : String) : V → List V → Hp → VK → Prop := fun x xs H Q => ∃ rr, MtR X id rr ∧ rr x xs H Q
theorem mtU_ok {id : String} : MtR X id (mtU X id) := fun pins s σ H x xs v us Q I rx rv ⟨rr, h1, h2⟩ => h1 pins s σ H x xs v us Q I rx rv h2
theorem MtR.post {id : String} {rr : V → List V → Hp → VK → Prop} (h : MtR X id rr) (P : VK) : MtR X id (fun x xs H Q' => rr x xs H P ∧ ∀ v H', P v H' → Q' v H') := fun pins s σ H x xs v us Q' I rx rv ⟨q, m⟩ =>
  wpAny_mono (h pins s σ H x xs v us P I rx rv q) (fun _ _ ⟨v, H', I', rl, q⟩ => ⟨v, H', I', rl, m v H' q⟩) fun _ _ x => x
theorem mut_end {id : String} {ds args : List D} {i : Nat} {F0 T F F1 H : Hp} {σ : L2.St} {v : V} {us : List V} {Q : Res → Env2 → GD → Prop} (e1 : Ex F F1) (S : Sta X.K F0 T F1 G H r σ) (hi : r[i]? = some (.own (.lst ds))) (hv : σ[i]? = some (some v)) (ha : RepL X.K F1 args us)
    (h : MutW X id ds args fun res ds' => Q (.sh res) (r.set i (.own (.lst ds'))) G) : mtU X id v us H (PostE X.K F0 T F σ Q) := by
  obtain ⟨p, h1, ⟨vs, h2, h3⟩, h4, h5⟩ := S.mut hi
  rw [hv] at h1; cases h1
  obtain ⟨rr, k1, k2⟩ := h F1 H p vs us h2 h4 S.bas.fh h3 ha
  refine ⟨_, MtR.post k1 _, k2, fun v' H' ⟨vs', res, ds', z1, z2, z3, z4⟩ => ?_⟩
  subst z1
  exact ⟨.sh res, _, G, F1, e1, h5 _ (.lst ds') ⟨vs', upd_same, z3⟩, z2, z4⟩
theorem we_m1 {name : Str} {id : String} {Q : Res → Env2 → GD → Prop} (pa : PlainAttrs "list") (slot : Slot "list" name id) (hty : typeOf (.builtin id) = pure (.type "method_descriptor"))
    (h : WE X o r G fun x r1 G1 => ∃ i ds0, x = .pk i ∧ r1[i]? = some (.own (.lst ds0)) ∧ WE X e r1 G1 fun y r2 G2 => ∃ d r3 ds, fz r2 y = some (d, r3) ∧ r3[i]? = some (.own (.lst ds)) ∧ MutW X id ds [d] fun res ds' => Q (.sh res) (r3.set i (.own (.lst ds'))) G2)
    (hbase : attributeBase o name X.env (eval o X.env) = eval o X.env := by rfl)
    (hfew : ((backTo cpos (starEach [e] X.env)).all (fun x => !x.1) && (backToKw cpos (keywordEach [] X.env)).all (fun x => x.1.isSome) && decide (([e] : List Expr).length + ([] : List Keyword).length + (if ([] : List Keyword).isEmpty then 0 else 1) < 30)) = true := by rfl)
    (hline : (apos.endLine == cpos.line) = true := by rfl) (hs : starEach [e] X.env = (false, eval e X.env) :: starEach [] X.env := by rfl) (hplain : (backTo cpos (starEach [] X.env)).any (·.1) = false := by rfl) :
    WE X (.Call (.Attribute o name apos) [e] [] cpos) r G Q := fun F0 T F H σ lk S =>
  Run.of (pe_bm pa slot hty mtU_ok peR (pa_cons peR pa_nil hs) hbase hfew hline hs hplain) ((h F0 T F H σ lk S).mono fun v H1 ⟨x, r1, G1, F1, e1, S1, k1, i, ds0, hx, hi0, h1⟩ => by
    subst hx
    obtain ⟨hv, _⟩ := k1
    obtain ⟨p, h1', ⟨vs, h2, h3⟩, _⟩ := S1.mut hi0
    rw [hv] at h1'; cases h1'
    refine ⟨.inl ⟨rfl, vs, .inl (.inl h2)⟩, (h1 F0 T F1 H1 σ lk S1).mono fun w H2 ⟨y, r2, G2, F2, e2, S2, k2, d, r3, ds, q1, q2, q3⟩ => ?_⟩
    obtain ⟨F3, e3, S3, rp⟩ := S2.fz k2 q1
    exact mut_end ((e1.trans e2).trans e3) S3 q2 hv (.one rp) q3)
theorem mw_append {ds : List D} {d : D} {Kt : D → List D → Prop} (hl : ds.length < LIM) (k : Kt .non (ds ++ [d])) : MutW X "list.append" ds [d] Kt := fun F H p vs us hp hf ex h1 h2 => by
  obtain ⟨v, u', rfl, h3, h4⟩ := h2
  cases (show u' = [] from h4)
  exact ⟨_, mt_append, p, vs, v, rfl, rfl, hp, by rw [h1.length]; exact lim_lt hl, vs ++ [v], .non, ds ++ [d], rfl, rfl, h1.append (.one h3), k⟩
def rExtendR : V → List V → Hp → VK → Prop := fun x vs H Q => ∃ l b xs zs, x = .ref l ∧ vs = [.ref b] ∧ H l = some (.lst xs) ∧ Rd H b (.lst zs) ∧ xs.length + zs.length ≤ sizeLine ∧ Q .non (upd H l (.lst (xs ++ zs)))
theorem mt_extendR {X : Cx} : MtR X "list.extend" rExtendR := by
  intro pins s σ H x vs v us Q I rx rv h
  obtain ⟨l, b, xs, zs, rfl, rfl, hH, hB, hz, q⟩ := h
  cases rx
  obtain ⟨u, rfl, ru⟩ := rv.one
  cases ru
  obtain ⟨z, its, n, r, hl, e⟩ := I.lstM hH
  obtain ⟨z2, its2, n2, r2, e2⟩ := lst_of I hB
  have hl2 := r2.length
  have hsz : its.toArray.size + its2.toArray.size ≤ sizeLine := by rw [List.size_toArray, List.size_toArray]; omega
  have hlong : ¬ (!its.toArray.isEmpty && Builtin.List.listTooLong (its.toArray.size + its2.toArray.size)) = true := by
    rw [notLongL hsz, Bool.and_false]
    exact Bool.false_ne_true
  refine call_meets F.slot_list_extend ⟨_, e, rfl⟩ F.entry_list_extend (F.args_list_extend_2 _ _)
    (AutoSeq1.list_extend_list_list_0 l its.toArray n b its2.toArray n2 hlong (by rw [List.size_toArray]; omega) (by omega)) ⟨e, e2, ?_⟩
  refine ⟨.non, _, I.lset (its' := its ++ its2) hH e (by simp) (r.append r2) ?_, rfl, q⟩
  rw [List.length_append]
  omega
theorem mw_extend {ds es : List D} {Kt : D → List D → Prop} (hl : ds.length + es.length ≤ LIM) (k : Kt .non (ds ++ es)) : MutW X "list.extend" ds [.lst es] Kt := fun F H p vs us hp hf ex h1 h2 => by
  obtain ⟨v, u', rfl, ⟨q, ws, rfl, h5, h6⟩, h4⟩ := h2
  cases (show u' = [] from h4)
  exact ⟨_, mt_extendR, p, q, vs, ws, rfl, rfl, hp, ex.rd h5, by rw [h1.length, h6.length]; exact lim_ok hl, vs ++ ws, .non, ds ++ es, rfl, rfl, h1.append h6, k⟩
theorem mw_popAt {ds : List D} {i : Nat} {d : D} {Kt : D → List D → Prop} (hi : ds[i]? = some d) (hl : ds.length ≤ LIM) (k : Kt d (ds.eraseIdx i)) : MutW X "list.pop" ds [.int (i : Nat)] Kt := fun F H p vs us hp hf ex h1 h2 => by
  obtain ⟨v, u', rfl, h3, h4⟩ := h2
  cases (show u' = [] from h4)
  cases (show v = .int (i : Nat) from h3)
  obtain ⟨w, k1, k2⟩ := h1.get hi
  have hlt : i < vs.length := (List.getElem?_eq_some_iff.mp k1).1
  have hlt2 : i < LIM := by rw [h1.length] at hlt; omega
  have hb : (i : Int) < 2 ^ 63 := by
    have : (LIM : Int) < 2 ^ 63 := by decide
    omega
  refine ⟨_, mt_popAt, p, vs, (i : Int), i, w, rfl, rfl, hp, by omega, hb, ?_, k1, vs.eraseIdx i, d, ds.eraseIdx i, rfl, k2, h1.eraseIdx i, k⟩
  unfold seqIndex?
  simp
  omega
theorem we_append {Q : Res → Env2 → GD → Prop}
    (h : WE X o r G fun x r1 G1 => ∃ i ds0, x = .pk i ∧ r1[i]? = some (.own (.lst ds0)) ∧ WE X e r1 G1 fun y r2 G2 => ∃ d r3 ds, fz r2 y = some (d, r3) ∧ r3[i]? = some (.own (.lst ds)) ∧ ds.length < LIM ∧ Q (.sh .non) (r3.set i (.own (.lst (ds ++ [d])))) G2)
    (hbase : attributeBase o "append" X.env (eval o X.env) = eval o X.env := by rfl)
    (hfew : ((backTo cpos (starEach [e] X.env)).all (fun x => !x.1) && (backToKw cpos (keywordEach [] X.env)).all (fun x => x.1.isSome) && decide (([e] : List Expr).length + ([] : List Keyword).length + (if ([] : List Keyword).isEmpty then 0 else 1) < 30)) = true := by rfl)
    (hline : (apos.endLine == cpos.line) = true := by rfl) (hs : starEach [e] X.env = (false, eval e X.env) :: starEach [] X.env := by rfl) (hplain : (backTo cpos (starEach [] X.env)).any (·.1) = false := by rfl) :
    WE X (.Call (.Attribute o "append" apos) [e] [] cpos) r G Q :=
  we_m1 PySem.F.plainAttrs_list PySem.F.slot_list_append PySem.F.type_list_append (h.mono fun x r1 G1 ⟨i, ds0, h1, h2, h3⟩ => ⟨i, ds0, h1, h2, h3.mono fun y r2 G2 ⟨d, r3, ds, k1, k2, k3, k4⟩ => ⟨d, r3, ds, k1, k2, mw_append k3 k4⟩⟩) hbase hfew hline hs hplain
theorem we_extend {Q : Res → Env2 → GD → Prop}
    (h : WE X o r G fun x r1 G1 => ∃ i ds0, x = .pk i ∧ r1[i]? = some (.own (.lst ds0)) ∧ WE X e r1 G1 fun y r2 G2 => ∃ zs r3 ds, fz r2 y = some (.lst zs, r3) ∧ r3[i]? = some (.own (.lst ds)) ∧ ds.length + zs.length ≤ LIM ∧ Q (.sh .non) (r3.set i (.own (.lst (ds ++ zs)))) G2)
    (hbase : attributeBase o "extend" X.env (eval o X.env) = eval o X.env := by rfl)
    (hfew : ((backTo cpos (starEach [e] X.env)).all (fun x => !x.1) && (backToKw cpos (keywordEach [] X.env)).all (fun x => x.1.isSome) && decide (([e] : List Expr).length + ([] : List Keyword).length + (if ([] : List Keyword).isEmpty then 0 else 1) < 30)) = true := by rfl)
    (hline : (apos.endLine == cpos.line) = true := by rfl) (hs : starEach [e] X.env = (false, eval e X.env) :: starEach [] X.env := by rfl) (hplain : (backTo cpos (starEach [] X.env)).any (·.1) = false := by rfl) :
    WE X (.Call (.Attribute o "extend" apos) [e] [] cpos) r G Q :=
  we_m1 PySem.F.plainAttrs_list PySem.F.slot_list_extend PySem.F.type_list_extend (h.mono fun x r1 G1 ⟨i, ds0, h1, h2, h3⟩ => ⟨i, ds0, h1, h2, h3.mono fun y r2 G2 ⟨zs, r3, ds, k1, k2, k3, k4⟩ => ⟨.lst zs, r3, ds, k1, k2, mw_extend k3 k4⟩⟩) hbase hfew hline hs hplain
theorem we_popAt {Q : Res → Env2 → GD → Prop}
    (h : WE X o r G fun x r1 G1 => ∃ i ds0, x = .pk i ∧ r1[i]? = some (.own (.lst ds0)) ∧ WE X e r1 G1 fun y r2 G2 => ∃ j r3 ds d, fz r2 y = some (.int (j : Nat), r3) ∧ r3[i]? = some (.own (.lst ds)) ∧ ds[j]? = some d ∧ ds.length ≤ LIM ∧ Q (.sh d) (r3.set i (.own (.lst (ds.eraseIdx j)))) G2)
    (hbase : attributeBase o "pop" X.env (eval o X.env) = eval o X.env := by rfl)
    (hfew : ((backTo cpos (starEach [e] X.env)).all (fun x => !x.1) && (backToKw cpos (keywordEach [] X.env)).all (fun x => x.1.isSome) && decide (([e] : List Expr).length + ([] : List Keyword).length + (if ([] : List Keyword).isEmpty then 0 else 1) < 30)) = true := by rfl)
    (hline : (apos.endLine == cpos.line) = true := by rfl) (hs : starEach [e] X.env = (false, eval e X.env) :: starEach [] X.env := by rfl) (hplain : (backTo cpos (starEach [] X.env)).any (·.1) = false := by rfl) :
    WE X (.Call (.Attribute o "pop" apos) [e] [] cpos) r G Q :=
  we_m1 PySem.F.plainAttrs_list PySem.F.slot_list_pop PySem.F.type_list_pop (h.mono fun x r1 G1 ⟨i, ds0, h1, h2, h3⟩ => ⟨i, ds0, h1, h2, h3.mono fun y r2 G2 ⟨j, r3, ds, d, k1, k2, k3, k4, k5⟩ => ⟨.int (j : Nat), r3, ds, k1, k2, mw_popAt k3 k4 k5⟩⟩) hbase hfew hline hs hplain
def Cy.blk (X : Cy) (s : Shared) (H : Hp) (scope : Scope) (env : Env) (fp : List Addr) : Cy := { X.toCx.blk s H scope env fp with F0 := X.F0, T := X.T, QX := fun _ _ _ => False }
def BlkX (X : Cy) (scope : Scope) (Y : Cy) : Prop := ∃ (s : Shared) (H : Hp) (C : Addr) (cl : List (Str × Addr)) (fp : List Addr), Y = X.blk s H scope (compEnvC scope cl C X.env) fp
theorem BlkX.k {scope : Scope} {Y : Cy} (h : BlkX X scope Y) : Y.K = X.K := by obtain ⟨_, _, _, _, _, rfl⟩ := h; rfl
theorem BlkX.lk {scope : Scope} {Y : Cy} {F0 T : Hp} (h : BlkX X scope Y) (lk : Lk X F0 T) : Lk Y F0 T := by obtain ⟨_, _, _, _, _, rfl⟩ := h; exact ⟨lk.t, lk.f, lk.ft⟩
theorem BlkX.tk {scope : Scope} {Y : Cy} (h : BlkX X scope Y) : Y.Tk := by
  obtain ⟨_, _, _, _, _, rfl⟩ := h
  exact takes0.imp fun _ _ _ _ ⟨_, _, _, _, _, _, z⟩ => z
def wipeD (r : Env2) : List Nat → Env2
  | [] => r
  | i :: is => (wipeD r is).set i .no
theorem wipeD_len (r : Env2) : ∀ is, (wipeD r is).length = r.length
  | [] => rfl
  | i :: is => by unfold wipeD; rw [List.length_set, wipeD_len r is]
theorem Sta.wipe {K : PySem.W.Frag} {F0 T F : Hp} {G : GD} {H : Hp} {r : Env2} {σ σ' : L2.St} (S : Sta K F0 T F G H r σ') : ∀ (is : List Nat), L2.wipe σ' is = L2.wipe σ is → Sta K F0 T F G H (wipeD r is) (L2.wipe σ is) := by
  intro is e
  rw [← e]
  clear e
  have key : ∀ (is : List Nat) (i : Nat) (s : Sl), (wipeD r is)[i]? = some s → s = .no ∨ (r[i]? = some s ∧ (L2.wipe σ' is)[i]? = σ'[i]?) := by
    intro is
    induction is with
    | nil => intro i s h; exact .inr ⟨h, rfl⟩
    | cons j is ih =>
      intro i s h
      unfold wipeD at h
      unfold L2.wipe
      by_cases hj : j = i
      · subst hj
        by_cases hl : j < (wipeD r is).length
        · rw [List.getElem?_set_self hl] at h; left; cases h; rfl
        · rw [List.getElem?_eq_none (by rw [List.length_set]; omega)] at h; cases h
      · rw [List.getElem?_set_ne hj] at h ⊢
        exact ih i s h
  refine ⟨S.bas, by rw [wipeD_len, wipe_length]; exact S.len, fun i s h => ?_, fun i j d e' hij hi hj => ?_⟩
  · rcases key is i s h with z | ⟨z1, z2⟩
    · subst z; trivial
    · rw [z2]; exact S.sl i s z1
  · rcases key is i _ hi with z | ⟨z1, z2⟩
    · cases z
    · rcases key is j _ hj with y | ⟨y1, y2⟩
      · cases y
      · rw [z2, y2]; exact S.ap i j d e' hij z1 y1
/-- what is done in a comprehension's turn, over data; B: the contexts in which elt is read -/
def LcTurnB (X : Cy) (scope : Scope) (B : Cy → Prop) (tg elt : Expr) (ifs : List Expr) (is : List Nat) (d : D) (acc : List D) (r : Env2) (G : GD) (Nx : List D → Env2 → GD → Prop) : Prop :=
  ∀ Y, BlkX X scope Y → WG Y tg d r G is fun r1 G1 => match ifs with
    | [] => ∀ Y, B Y → WE Y elt r1 G1 fun z r2 G2 => ∃ d' r3, fz r2 z = some (d', r3) ∧ acc.length < LIM ∧ Nx (acc ++ [d']) (wipeD r3 is) G2
    | [c] => ∀ Y, BlkX X scope Y → WT Y c r1 G1 fun b r2 G2 => (b = true → ∀ Y, B Y → WE Y elt r2 G2 fun z r3 G3 => ∃ d' r4, fz r3 z = some (d', r4) ∧ acc.length < LIM ∧ Nx (acc ++ [d']) (wipeD r4 is) G3) ∧ (b = false → Nx acc (wipeD r2 is) G2)
    | _ => False
def LcTurn (X : Cy) (scope : Scope) (tg elt : Expr) (ifs : List Expr) (is : List Nat) (d : D) (acc : List D) (r : Env2) (G : GD) (Nx : List D → Env2 → GD → Prop) : Prop :=
  ∀ Y, BlkX X scope Y → WG Y tg d r G is fun r1 G1 => match ifs with
    | [] => ∀ Y, BlkX X scope Y → WE Y elt r1 G1 fun z r2 G2 => ∃ d' r3, fz r2 z = some (d', r3) ∧ acc.length < LIM ∧ Nx (acc ++ [d']) (wipeD r3 is) G2
    | [c] => ∀ Y, BlkX X scope Y → WT Y c r1 G1 fun b r2 G2 => (b = true → ∀ Y, BlkX X scope Y → WE Y elt r2 G2 fun z r3 G3 => ∃ d' r4, fz r3 z = some (d', r4) ∧ acc.length < LIM ∧ Nx (acc ++ [d']) (wipeD r4 is) G3) ∧ (b = false → Nx acc (wipeD r2 is) G2)
    | _ => False
/-- the readings of a block, over all its contexts -/
def blkG (X : Cy) (scope : Scope) (tg : Expr) : TG := fun v σ H Q => ∀ Y, BlkX X scope Y → RunG Y tg v σ H Q
def blkE (X : Cy) (scope : Scope) (e : Expr) : TE := fun σ H Q => ∀ Y, BlkX X scope Y → Run Y e σ H Q
def blkT (X : Cy) (scope : Scope) (ifs : List Expr) : TT := fun σ H Q => match ifs with
  | [] => Q true H
  | [c] => ∀ Y, BlkX X scope Y → RunT Y c σ H Q
  | _ => False
theorem blkT_ok {scope : Scope} {ifs : List Expr} (s : Shared) (H : Hp) (C : Addr) (cl : List (Str × Addr)) (fp : List Addr) : PTs (X.toCx.blk s H scope (compEnvC scope cl C X.env) fp) ifs (blkT X scope ifs) := by
  refine ⟨fun pins s' σ H' Q I h => ?_⟩
  match ifs, h with
  | [], h => exact pts_nil.run pins s' σ H' Q I h
  | [c], h => exact (pts_one ptR).run pins s' σ H' Q I (h (X.blk s H scope (compEnvC scope cl C X.env) fp) ⟨s, H, C, cl, fp, rfl⟩)
  | _ :: _ :: _, h => exact h.elim
/-- one turn, over heaps -/
theorem lc_turnB {scope : Scope} {elt : Expr} {ifs : List Expr} {is : List Nat} {d : D} {acc : List D} {Nx : List D → Env2 → GD → Prop} {F0 T F H : Hp} {σ : L2.St} {v : V} {L : Addr} {us : List V}
    (lk : Lk X F0 T) (S : Sta X.K F0 (upd T L (.lst us)) F G H r (L2.wipe σ is)) (hT : T L = none) (h0 : F0 L = none) (ha : RepL X.K F0 acc us) (rp : Rep X.K F d v) {B : Cy → Prop} {te : TE} (hBk : ∀ Y, B Y → Y.K = X.K) (hBl : ∀ Y, B Y → ∀ T', Lk X F0 T' → Lk Y F0 T') (hte : ∀ σ H Q, (∀ Y, B Y → Run Y elt σ H Q) → te σ H Q) (h : LcTurnB X scope B tg elt ifs is d acc r G Nx) {Pn : Hp → Prop}
    (hN : ∀ acc' us' r' G' F' H', Nx acc' r' G' → RepL X.K F' acc' us' → Sta X.K F0 (upd T L (.lst us')) F' G' H' r' (L2.wipe σ is) → Pn H') :
    blkG X scope tg v (L2.wipe σ is) H fun σ2 H2 => L2.wipe σ2 is = L2.wipe σ is ∧ blkT X scope ifs σ2 H2 fun b H3 =>
      if b = true then te σ2 H3 fun y H4 => ∃ acc', H4 L = some (.lst acc') ∧ acc'.length < sizeLine ∧ Pn (upd H4 L (.lst (acc' ++ [y]))) else Pn H3 := by
  have wi : L2.wipe (L2.wipe σ is) is = L2.wipe σ is := by
    have aux : ∀ (js : List Nat) (τ : L2.St), (∀ j ∈ js, ∀ x, τ[j]? = some x → x = none) → L2.wipe τ js = τ := by
      intro js
      induction js with
      | nil => intro τ _; rfl
      | cons j js ih =>
        intro τ hτ
        unfold L2.wipe
        rw [ih τ fun k hk => hτ k (List.mem_cons_of_mem _ hk)]
        refine List.ext_getElem? fun k => ?_
        by_cases hjk : j = k
        · subst hjk
          by_cases hl : j < τ.length
          · rw [List.getElem?_set_self hl]
            cases e : τ[j]? with
            | none => rw [List.getElem?_eq_none_iff] at e; omega
            | some x => rw [hτ j List.mem_cons_self x e]
          · rw [List.getElem?_eq_none (by rw [List.length_set]; omega), List.getElem?_eq_none (by omega)]
        · rw [List.getElem?_set_ne hjk]
    refine aux is _ fun j hj x hx => ?_
    cases x with
    | none => rfl
    | some y => exact absurd hj (wipe_some hx).2
  have fin : ∀ (F2 : Hp) (G2 : GD) (H4 : Hp) (r2 r3 : Env2) (σ2 : L2.St) (z : Res) (y : V) (d' : D), L2.wipe σ2 is = L2.wipe σ is → Sta X.K F0 (upd T L (.lst us)) F2 G2 H4 r2 σ2 → ResOk X.K (upd T L (.lst us)) F2 G2 H4 r2 σ2 z y → fz r2 z = some (d', r3) → acc.length < LIM → Nx (acc ++ [d']) (wipeD r3 is) G2 →
      ∃ acc', H4 L = some (.lst acc') ∧ acc'.length < sizeLine ∧ Pn (upd H4 L (.lst (acc' ++ [y]))) := fun F2 G2 H4 r2 r3 σ2 z y d' hw S2 k2 q1 q2 q3 => by
    obtain ⟨F3, e3, S3, rp3⟩ := S2.fz k2 q1
    have hL : H4 L = some (.lst us) := S3.bas.tk L _ upd_same
    have ha3 : RepL X.K F3 acc us := RepL.mono S3.bas.ff _ _ ha
    have fL : F3 L = none := by
      cases e : F3 L with
      | none => rfl
      | some u =>
        rcases S3.bas.ft L u e with zz | zz
        · rw [h0] at zz; cases zz
        · rw [upd_same] at zz; cases zz
    have gL : G2 L = none := by
      cases e : G2 L with
      | none => rfl
      | some u => have zz := S3.bas.gt L u e; rw [upd_same] at zz; cases zz
    refine ⟨us, hL, by rw [ha3.length]; exact lim_lt q2, hN _ (us ++ [y]) _ G2 F3 _ q3 (ha3.append (.one rp3)) ?_⟩
    have Sw := S3.wipe is hw
    refine ⟨⟨Sw.bas.ff, fun q u hq => ?_, fun q u hq => ?_, fun q u hq => ?_, Sw.bas.fg, fun q u hq => ?_, fun q u hq => ?_⟩, Sw.len, fun i s hs => ?_, Sw.ap⟩
    · have hqL : q ≠ L := fun zz => by subst zz; rw [fL] at hq; cases hq
      have := Sw.bas.ft q u hq
      rw [upd_ne hqL] at this ⊢
      exact this
    · have hqL : q ≠ L := fun zz => by subst zz; rw [fL] at hq; cases hq
      rw [upd_ne hqL]; exact Sw.bas.fh q u hq
    · have hqL : q ≠ L := fun zz => by subst zz; rw [gL] at hq; cases hq
      exact (Sw.bas.gh q u hq).mono (Ex.refl _) fun o ho => by rw [upd_ne hqL]; exact ho
    · have hqL : q ≠ L := fun zz => by subst zz; rw [gL] at hq; cases hq
      have := Sw.bas.gt q u hq
      rw [upd_ne hqL] at this ⊢
      exact this
    · by_cases hqL : q = L
      · subst hqL; rw [upd_same] at hq ⊢; exact hq
      · rw [upd_ne hqL] at hq ⊢
        exact Sw.bas.tk q u (by rw [upd_ne hqL]; exact hq)
    · have hh := Sw.sl i s hs
      cases s with
      | no => trivial
      | sh d => exact hh
      | own d =>
        obtain ⟨p, k1, k3, k4, k5, k6⟩ := hh
        have hpL : p ≠ L := fun zz => by subst zz; rw [upd_same] at k6; cases k6
        rw [upd_ne hpL] at k6
        exact ⟨p, k1, k3.mono (Ex.refl _) (fun u hu => by rw [upd_ne hpL]; exact hu), k4, k5, by rw [upd_ne hpL]; exact k6⟩
  intro Y hY pins s u I rv
  have lk' : Lk X F0 (upd T L (.lst us)) := lk.ext (Ex.new hT)
  have hYK : Y.K = X.K := hY.k
  have h' := h Y hY
  unfold WG at h'
  rw [hYK] at h'
  refine wpAny_mono (h' F0 (upd T L (.lst us)) F H (L2.wipe σ is) v (hY.lk lk') S rp pins s u I rv) (fun _ s' ⟨σ', H', I', hw, r', G', F', e', S', q⟩ => ⟨σ', H', I', hw.trans wi, ?_⟩) fun _ _ x => x
  have hw' := hw.trans wi
  match ifs, q with
  | [], q =>
    unfold blkT
    dsimp only
    rw [if_pos rfl]
    refine hte _ _ _ fun Z hZ => ?_
    have q' := q Z hZ
    unfold WE at q'
    rw [hBk Z hZ] at q'
    exact (q' F0 _ F' H' σ' (hBl Z hZ _ lk') S').mono fun y H4 ⟨z, r2, G2, F2, e2, S2, k2, d', r3, m1, m2, m3⟩ => fin F2 G2 H4 r2 r3 σ' z y d' hw' S2 k2 m1 m2 m3
  | [c], q =>
    intro Z hZ
    have q' := q Z hZ
    unfold WT at q'
    rw [hZ.k] at q'
    refine (q' F0 _ F' H' σ' (hZ.lk lk') S').mono fun b H3 ⟨r2, G2, F2, e2, S2, m1, m2⟩ => ?_
    cases b with
    | true =>
      rw [if_pos rfl]
      refine hte _ _ _ fun W hW => ?_
      have q2 := m1 rfl W hW
      unfold WE at q2
      rw [hBk W hW] at q2
      exact (q2 F0 _ F2 H3 σ' (hBl W hW _ lk') S2).mono fun y H4 ⟨z, r3, G3, F3, e3, S3, k3, d', r4, n1, n2, n3⟩ => fin F3 G3 H4 r3 r4 σ' z y d' hw' S3 k3 n1 n2 n3
    | false =>
      rw [if_neg Bool.false_ne_true]
      exact hN acc us _ G2 F2 H3 (m2 rfl) (RepL.mono S2.bas.ff _ _ ha) (S2.wipe is hw')
  | _ :: _ :: _, q => exact q.elim
/-- what a comprehension's loop keeps -/
def LcInv (K : PySem.W.Frag) (T Fa : Hp) (τ : L2.St) (L : Addr) (I : List D → Env2 → GD → Prop) : Hp → Prop := fun H' =>
  ∃ acc us r' G' F', RepL K F' acc us ∧ Sta K Fa (upd T L (.lst us)) F' G' H' r' τ ∧ I acc r' G'
theorem lc_begin {K : PySem.W.Frag} {F0 T F H : Hp} {σ : L2.St} {is : List Nat} {L : Addr} {I : List D → Env2 → GD → Prop} (S : Sta K F0 T F G H r σ) (hL : H L = none) (h0 : I [] (wipeD r is) G) : LcInv K T F (L2.wipe σ is) L I (upd H L (.lst [])) := by
  obtain ⟨f1, f2, f3⟩ := S.bas.freshF hL
  have Sb := (S.newH (o := .lst []) hL).base.wipe (σ := σ) is rfl
  refine ⟨[], [], _, G, F, rfl, ⟨⟨Sb.bas.ff, fun q u hq => .inl hq, Sb.bas.fh, Sb.bas.gh, Sb.bas.fg, fun q u hq => ?_, fun q u hq => ?_⟩, Sb.len, fun i s hs => ?_, Sb.ap⟩, h0⟩
  · have hq' : q ≠ L := fun z => by subst z; rw [f2] at hq; cases hq
    rw [upd_ne hq']; exact Sb.bas.gt q u hq
  · by_cases hq' : q = L
    · subst hq'; rw [upd_same] at hq ⊢; exact hq
    · rw [upd_ne hq'] at hq; exact Sb.bas.tk q u hq
  · have hh := Sb.sl i s hs
    cases s with
    | no => trivial
    | sh d => exact hh
    | own d =>
      obtain ⟨p, k1, k2, k3, k4, k5⟩ := hh
      have hp : p ≠ L := fun z => by
        subst z
        by_cases hi : i ∈ is
        · have : (L2.wipe σ is)[i]? ≠ some (some (V.ref p)) := fun z => (wipe_some z).2 hi
          exact this k1
        · have e := (wipe_some k1).1
          have hr : r[i]? = some (.own d) := by
            have aux : ∀ (js : List Nat), i ∉ js → (wipeD r js)[i]? = r[i]? := by
              intro js
              induction js with
              | nil => intro _; rfl
              | cons j js ih =>
                intro hj
                unfold wipeD
                rw [List.getElem?_set_ne (fun z => hj (by rw [z]; exact List.mem_cons_self)), ih (fun z => hj (List.mem_cons_of_mem _ z))]
            rw [aux is hi] at hs
            exact hs
          exact S.freshR hL i d hr e
      exact ⟨p, k1, k2, k3, k4, by rw [upd_ne hp]; exact k5⟩
theorem lc_end {K : PySem.W.Frag} {F0 T Fa : Hp} {Ga : GD} {Ha H' : Hp} {σ : L2.St} {is : List Nat} {L : Addr} {I : List D → Env2 → GD → Prop} {Q : Res → Env2 → GD → Prop} (B : Bas K F0 T Fa Ga Ha) (hL : Ha L = none) (hσ : Wk r (wipeD r is)) (S0 : Sta K F0 T Fa Ga Ha r σ) (h : LcInv K T Fa (L2.wipe σ is) L I H') (he : ∀ acc r' G', I acc r' G' → Q (.fr (.lst acc)) r' G') :
    PostE K F0 T Fa σ Q (.ref L) H' := by
  obtain ⟨acc, us, r', G', F', ha, S, q⟩ := h
  obtain ⟨f1, f2, f3⟩ := B.freshF hL
  have fL : F' L = none := by
    cases e : F' L with
    | none => rfl
    | some u =>
      rcases S.bas.ft L u e with zz | zz
      · rw [f1] at zz; cases zz
      · rw [upd_same] at zz; cases zz
  have gL : G' L = none := by
    cases e : G' L with
    | none => rfl
    | some u => have zz := S.bas.gt L u e; rw [upd_same] at zz; cases zz
  have tsub : ∀ q u, T q = some u → upd T L (.lst us) q = some u := fun q u hq => by
    have hqL : q ≠ L := fun zz => by subst zz; rw [f3] at hq; cases hq
    rw [upd_ne hqL]; exact hq
  have tdown : ∀ q, upd T L (.lst us) q = none → T q = none := fun q hq => by
    cases hf : T q with
    | none => rfl
    | some u => rw [tsub q u hf] at hq; cases hq
  have slots : ∀ (i : Nat) (s : Sl), r'[i]? = some s → SlotOk K T F' G' H' s σ[i]? := fun i s hs => by
    have hh := S.sl i s hs
    cases s with
    | no => trivial
    | sh d => obtain ⟨v, k1, k2⟩ := hh; exact ⟨v, (wipe_some k1).1, k2⟩
    | own d => obtain ⟨p, k1, k2, k3, k4, k5⟩ := hh; exact ⟨p, (wipe_some k1).1, k2, k3, k4, tdown p k5⟩
  have St : Sta K F0 T F' G' H' r' σ := by
    refine ⟨⟨B.ff.trans S.bas.ff, fun q u hq => ?_, S.bas.fh, S.bas.gh, S.bas.fg, fun q u hq => tdown q (S.bas.gt q u hq), fun q u hq => S.bas.tk q u (tsub q u hq)⟩, by rw [S.len, wipe_length], slots, fun i j d e hij hi hj z => ?_⟩
    · rcases S.bas.ft q u hq with zz | zz
      · exact B.ft q u zz
      · exact .inr (tdown q zz)
    · obtain ⟨p, k1, _⟩ := S.ownS hi
      obtain ⟨p2, m1, _⟩ := S.ownS hj
      refine S.ap i j d e hij hi hj ?_
      rw [(wipe_some k1).1, (wipe_some m1).1] at z
      rw [k1, m1, z]
  refine ⟨.fr (.lst acc), r', G', F', S.bas.ff, St, ⟨L, rfl, ⟨us, S.bas.tk L _ upd_same, ha⟩, fL, gL, f3, fun i d hi z => ?_⟩, he acc r' G' q⟩
  obtain ⟨p, k1, _, _, _, k5⟩ := S.ownS hi
  have e1 := (wipe_some k1).1
  rw [e1] at z; cases z
  rw [upd_same] at k5; cases k5
theorem wk_wipe (r : Env2) : ∀ is, Wk r (wipeD r is)
  | [] => Wk.refl r
  | i :: is => by
    have ih := wk_wipe r is
    unfold wipeD
    have aux : ∀ {a b : Env2}, Wk a b → ∀ i, Wk a (b.set i .no) := by
      intro a b w
      induction w with
      | nil => intro i; exact .nil
      | no w ih =>
        intro i
        cases i with
        | zero => exact .no w
        | succ i => exact .no (ih i)
      | eq w ih =>
        intro i
        cases i with
        | zero => exact .no w
        | succ i => exact .eq (ih i)
    exact aux ih i
/-- one step of a comprehension over items -/
theorem lc_stepB {scope : Scope} {elt : Expr} {ifs : List Expr} {is : List Nat} {d : D} {J : It} {ds : List D} {i : Nat} {T Fa : Hp} {H H' : Hp} {σ : L2.St} {v : V} {L : Addr} {I I' : List D → Env2 → GD → Prop} (lk : Lk X Fa T) (hL : Fa L = none) (hT : T L = none) (hJ : ItD X.K J Fa ds) (hi : ds[i]? = some d) (h : LcInv X.K T Fa (L2.wipe σ is) L I H) (y : J.yld i H v H')
    {B : Cy → Prop} {te : TE} (hBk : ∀ Y, B Y → Y.K = X.K) (hBl : ∀ Y, B Y → ∀ F' T', Ex Fa F' → Lk X F' T' → Lk Y F' T') (hte : ∀ σ H Q, (∀ Y, B Y → Run Y elt σ H Q) → te σ H Q) (hs : ∀ acc r' G', I acc r' G' → LcTurnB X scope B tg elt ifs is d acc r' G' I') :
    blkG X scope tg v (L2.wipe σ is) H' fun σ2 H2 => L2.wipe σ2 is = L2.wipe σ is ∧ blkT X scope ifs σ2 H2 fun b H3 =>
      if b = true then te σ2 H3 fun y H4 => ∃ acc', H4 L = some (.lst acc') ∧ acc'.length < sizeLine ∧ LcInv X.K T Fa (L2.wipe σ is) L I' (upd H4 L (.lst (acc' ++ [y]))) else LcInv X.K T Fa (L2.wipe σ is) L I' H3 := by
  obtain ⟨acc, us, r', G', F1, ha1, S1, q⟩ := h
  obtain ⟨F', ef, S, rp⟩ := hJ.item S1.bas.ff S1 hi y
  have ha := RepL.mono ef _ _ ha1
  have fL : F' L = none := by
    cases e : F' L with
    | none => rfl
    | some u =>
      rcases S.bas.ft L u e with zz | zz
      · rw [hL] at zz; cases zz
      · rw [upd_same] at zz; cases zz
  have lk' : Lk X F' T := ⟨lk.t, lk.f.trans S.bas.ff, fun a o ho => (S.bas.ft a o ho).elim (fun z => lk.ft a o z) fun z => .inr (none_of lk.t (none_of (Ex.new hT) z))⟩
  refine lc_turnB lk' S.base hT fL ha rp hBk (fun Y hY T' l2 => hBl Y hY F' T' S.bas.ff l2) hte (hs acc r' G' q) fun acc' us' r2 G2 F2 H2 q2 ha2 S2 => ?_
  refine ⟨acc', us', r2, G2, F2, ha2, ⟨⟨S.bas.ff.trans S2.bas.ff, fun q u hq => ?_, S2.bas.fh, S2.bas.gh, S2.bas.fg, S2.bas.gt, S2.bas.tk⟩, S2.len, S2.sl, S2.ap⟩, q2⟩
  rcases S2.bas.ft q u hq with zz | zz
  · rcases S.bas.ft q u zz with yy | yy
    · exact .inl yy
    · by_cases hqL : q = L
      · subst hqL; rw [fL] at zz; cases zz
      · rw [upd_ne hqL] at yy ⊢; exact .inr yy
  · exact .inr zz
theorem lc_step {scope : Scope} {elt : Expr} {ifs : List Expr} {is : List Nat} {d : D} {J : It} {ds : List D} {i : Nat} {T Fa : Hp} {H H' : Hp} {σ : L2.St} {v : V} {L : Addr} {I I' : List D → Env2 → GD → Prop} (lk : Lk X Fa T) (hL : Fa L = none) (hT : T L = none) (hJ : ItD X.K J Fa ds) (hi : ds[i]? = some d) (h : LcInv X.K T Fa (L2.wipe σ is) L I H) (y : J.yld i H v H')
    (hs : ∀ acc r' G', I acc r' G' → LcTurn X scope tg elt ifs is d acc r' G' I') :
    blkG X scope tg v (L2.wipe σ is) H' fun σ2 H2 => L2.wipe σ2 is = L2.wipe σ is ∧ blkT X scope ifs σ2 H2 fun b H3 =>
      if b = true then blkE X scope elt σ2 H3 fun y H4 => ∃ acc', H4 L = some (.lst acc') ∧ acc'.length < sizeLine ∧ LcInv X.K T Fa (L2.wipe σ is) L I' (upd H4 L (.lst (acc' ++ [y]))) else LcInv X.K T Fa (L2.wipe σ is) L I' H3 :=
  lc_stepB (B := BlkX X scope) lk hL hT hJ hi h y (fun _ h => h.k) (fun _ h _ _ _ lk => h.lk lk) (fun _ _ _ h => h) hs
/-- [elt for tg in e if ..] -/
theorem lcI {scope : Scope} {elt : Expr} {ifs : List Expr} {own : List (Str × Nat)} {Q : Res → Env2 → GD → Prop} {F0 T F H : Hp} {σ : L2.St} (lk : Lk X F0 T) (S : Sta X.K F0 T F G H r σ)
    (h : WI X tg e r G fun ds r2 G1 => ∃ I : Nat → List D → Env2 → GD → Prop, I 0 [] (wipeD r2 (own.map (·.2))) G1 ∧ (∀ (k : Nat) (d : D) (acc : List D) (r3 : Env2) (G3 : GD), ds[k]? = some d → I k acc r3 G3 → LcTurn X scope tg elt ifs (own.map (·.2)) d acc r3 G3 (I (k + 1))) ∧
      ∀ acc r3 G3, I ds.length acc r3 G3 → Q (.fr (.lst acc)) r3 G3) : tLc (RunI X tg e) (blkG X scope tg) (blkT X scope ifs) (blkE X scope elt) (own.map (·.2)) σ H (PostE X.K F0 T F σ Q) := by
  refine (h F0 T F H σ lk S).mono fun J H1 ⟨ds, r2, G1, Fa, e1, Sa, hJ, I, i0, it, ie⟩ L hL => ?_
  obtain ⟨f1, f2, f3⟩ := Sa.bas.freshF hL
  refine ⟨fun i m H' => m = ds.length - i ∧ i ≤ ds.length ∧ LcInv X.K T Fa (L2.wipe σ (own.map (·.2))) L (I i) H', ⟨ds.length, by simp, Nat.zero_le _, lc_begin Sa hL i0⟩, ?_⟩
  rintro i m H' ⟨rfl, hi, hI⟩
  obtain ⟨_, _, _, _, F', _, S', _⟩ := id hI
  obtain ⟨j1, j2⟩ := hJ F' H' S'.bas.ff S'.bas.fh
  by_cases hlt : i < ds.length
  · obtain ⟨j3, _⟩ := j2 i ds[i] (List.getElem?_eq_getElem hlt)
    refine .inr ⟨j3, fun H2 => LcInv X.K T Fa (L2.wipe σ (own.map (·.2))) L (I (i + 1)) H2, fun H2 p2 => ⟨ds.length - (i + 1), by omega, rfl, hlt, p2⟩, fun x H2 y => ?_⟩
    exact lc_step (lk.base Sa.bas) f1 f3 hJ (List.getElem?_eq_getElem hlt) hI y fun acc r' G' q => it i ds[i] acc r' G' (List.getElem?_eq_getElem hlt) q
  · have e : i = ds.length := by omega
    subst e
    exact .inl ⟨j1, (lc_end Sa.bas hL (wk_wipe _ _) Sa hI fun acc r' G' q => ie acc r' G' q).ext e1⟩
theorem blkG_ok {scope : Scope} (s : Shared) (H : Hp) (C : Addr) (cl : List (Str × Addr)) (fp : List Addr) : PG (X.toCx.blk s H scope (compEnvC scope cl C X.env) fp) tg (blkG X scope tg) :=
  ⟨fun pins s' σ H' v u Q I rv h => h (X.blk s H scope (compEnvC scope cl C X.env) fp) ⟨s, H, C, cl, fp, rfl⟩ pins s' u I rv⟩
theorem blkE_ok {scope : Scope} {elt : Expr} (s : Shared) (H : Hp) (C : Addr) (cl : List (Str × Addr)) (fp : List Addr) : PE (X.toCx.blk s H scope (compEnvC scope cl C X.env) fp) elt (blkE X scope elt) :=
  ⟨fun pins s' σ H' Q I h => h (X.blk s H scope (compEnvC scope cl C X.env) fp) ⟨s, H, C, cl, fp, rfl⟩ pins s' I⟩
theorem we_lc {scope : Scope} {elt : Expr} {ifs : List Expr} (own : List (Str × Nat)) {Q : Res → Env2 → GD → Prop} (hc : X.calm = true) (hN : X.N.Nodup) (ok : BlkOk X.N X.env.scope scope own)
    (h : WI X tg e r G fun ds r2 G1 => ∃ I : Nat → List D → Env2 → GD → Prop, I 0 [] (wipeD r2 (own.map (·.2))) G1 ∧ (∀ (k : Nat) (d : D) (acc : List D) (r3 : Env2) (G3 : GD), ds[k]? = some d → I k acc r3 G3 → LcTurn X scope tg elt ifs (own.map (·.2)) d acc r3 G3 (I (k + 1))) ∧
      ∀ acc r3 G3, I ds.length acc r3 G3 → Q (.fr (.lst acc)) r3 G3) (hs : ∀ x, foldedSetIterable e X.env x = pure x := by intro _; rfl) : WE X (.ListComp elt [⟨tg, e, ifs, 0⟩] scope pos) r G Q := fun F0 T F H σ lk S =>
  Run.of (pe_lc hc hN piR ok blkG_ok blkT_ok blkE_ok hs) (lcI lk S h)
/-- y = [..] -/
theorem ws_setLc {scope : Scope} {elt : Expr} {ifs : List Expr} (own : List (Str × Nat)) (i : Nat) {y : Str} {py spos : Pos} (hc : X.calm = true) (hN : X.N.Nodup) (hy : X.N[i]? = some y) (hyl : X.env.scope.names.lookup y = some .local)
    (hsw : swapsWith (.ListComp elt [⟨tg, e, ifs, 0⟩] scope pos) (some (.Name y py)) spos.line X.env = pure true) (ok : BlkOk X.N X.env.scope scope own)
    (h : WI X tg e r G fun ds r2 G1 => ∃ I : Nat → List D → Env2 → GD → Prop, I 0 [] (wipeD r2 (own.map (·.2))) G1 ∧ (∀ (k : Nat) (d : D) (acc : List D) (r3 : Env2) (G3 : GD), ds[k]? = some d → I k acc r3 G3 → LcTurn X scope tg elt ifs (own.map (·.2)) d acc r3 G3 (I (k + 1))) ∧
      ∀ acc r3 G3, I ds.length acc r3 G3 → i < r3.length ∧ ∃ r2, putS r3 i (.fr (.lst acc)) = some r2 ∧ D0.nx r2 G3) (hs : ∀ x, foldedSetIterable e X.env x = pure x := by intro _; rfl) : WS X (.Assign [.Name y py] (.ListComp elt [⟨tg, e, ifs, 0⟩] scope pos) spos) r G D0 := fun F0 T F H σ lk S =>
  RunS.of (ps_setLc hc hN hy hyl hsw piR ok blkG_ok blkT_ok blkE_ok hs) (by
    have q := lcI (Q := fun y r1 G1 => i < r1.length ∧ ∃ r2, putS r1 i y = some r2 ∧ D0.nx r2 G1) (own := own) (scope := scope) (elt := elt) (ifs := ifs) lk S h
    refine RunI.mono q fun J H1 h1 L hL => ?_
    obtain ⟨W, w0, ws⟩ := h1 L hL
    refine ⟨W, w0, fun i' m H hW => (ws i' m H hW).imp (fun ⟨z1, z2⟩ => ⟨z1, ?_⟩) id⟩
    obtain ⟨y, r1, G1, F1, e1, S1, k1, hi, r2, q1, q2⟩ := z2
    obtain ⟨F2, e2, S2⟩ := S1.putS k1 hi q1
    exact ⟨r2, G1, F2, S2, q2⟩)
end
theorem Sta.gput {K : PySem.W.Frag} {F0 T F : Hp} {G : GD} {H : Hp} {r : Env2} {σ : L2.St} (S : Sta K F0 T F G H r σ) {b : Addr} {d0 d : D} (hG : G b = some d0) {o' : HO} (ho : Own K F (upd H b o') b d) : Sta K F0 T F (updG G b d) (upd H b o') r σ := by
  have f1 := S.bas.fg _ _ hG
  have f2 := S.bas.gt _ _ hG
  refine ⟨⟨S.bas.ff, S.bas.ft, fun a u e => ?_, fun a u e => ?_, fun a u e => ?_, fun a u e => ?_, fun a u e => ?_⟩, S.len, fun i s e => ?_, S.ap⟩
  · rw [upd_ne (ne_of_none e f1)]; exact S.bas.fh a u e
  · by_cases h : a = b
    · subst h; rw [updG_same] at e; cases e; exact ho
    · rw [updG_ne h] at e
      exact (S.bas.gh a u e).mono (Ex.refl _) fun o q => by rw [upd_ne h]; exact q
  · by_cases h : a = b
    · subst h; exact f1
    · rw [updG_ne h] at e; exact S.bas.fg a u e
  · by_cases h : a = b
    · subst h; exact f2
    · rw [updG_ne h] at e; exact S.bas.gt a u e
  · rw [upd_ne (ne_of_none e f2)]; exact S.bas.tk a u e
  · have q := S.sl i s e
    cases s with
    | no => trivial
    | sh d => exact q
    | own d =>
      obtain ⟨p, q1, q2, q3, q4, q5⟩ := q
      have hp : p ≠ b := fun z => by subst z; rw [q4] at hG; cases hG
      exact ⟨p, q1, q2.mono (Ex.refl _) (fun u hu => by rw [upd_ne hp]; exact hu), q3, by rw [updG_ne hp]; exact q4, q5⟩
/-- a new object of the open region -/
theorem Sta.gnew {K : PySem.W.Frag} {F0 T F : Hp} {G : GD} {H : Hp} {r : Env2} {σ : L2.St} (S : Sta K F0 T F G H r σ) {p : Addr} {d : D} (h : ResOk K T F G H r σ (.fr d) (.ref p)) : Sta K F0 T F (updG G p d) H r σ := by
  obtain ⟨p', e, h2, h3, h4, h5, h6⟩ := h
  cases e
  refine ⟨⟨S.bas.ff, S.bas.ft, S.bas.fh, fun a u e => ?_, fun a u e => ?_, fun a u e => ?_, S.bas.tk⟩, S.len, fun i s e => ?_, S.ap⟩
  · by_cases h : a = p
    · subst h; rw [updG_same] at e; cases e; exact h2
    · rw [updG_ne h] at e; exact S.bas.gh a u e
  · by_cases h : a = p
    · subst h; exact h3
    · rw [updG_ne h] at e; exact S.bas.fg a u e
  · by_cases h : a = p
    · subst h; exact h5
    · rw [updG_ne h] at e; exact S.bas.gt a u e
  · have q := S.sl i s e
    cases s with
    | no => trivial
    | sh d => exact q
    | own d =>
      obtain ⟨p', q1, q2, q3, q4, q5⟩ := q
      have hp : p' ≠ p := fun z => by subst z; exact h6 i d e q1
      exact ⟨p', q1, q2, q3, by rw [updG_ne hp]; exact q4, q5⟩
section
variable {X : Cy} {e e2 a b c o tg : Expr} {es : List Expr} {st : Stmt} {sts rest body orelse : List Stmt} {r : Env2} {G : GD} {pos tpos apos cpos p0 : Pos} {D0 : EndsD}
/-- a fresh result goes to the open region -/
theorem we_open {Q : Res → Env2 → GD → Prop} (h : WE X e r G fun x r1 G1 => ∃ d, x = .fr d ∧ ∀ p, G1 p = none → Q (.sh (.adr p)) r1 (updG G1 p d)) : WE X e r G Q := fun F0 T F H σ lk S =>
  (h F0 T F H σ lk S).mono fun v H1 ⟨x, r1, G1, F1, e1, S1, k1, d, hx, q⟩ => by
    subst hx
    obtain ⟨p, rfl, h2, h3, h4, h5, h6⟩ := id k1
    exact ⟨.sh (.adr p), r1, updG G1 p d, F1, e1, S1.gnew k1, rfl, q p h4⟩
/-- o[i] = e, o a list of the open region -/
theorem ws_setG (h : WE X e r G fun y r1 G1 => ∃ d r1', fz r1 y = some (d, r1') ∧ WE X o r1' G1 fun x r2 G2 => ∃ g, x = .sh (.adr g) ∧ WE X a r2 G2 fun z r3 G3 => ∃ k ds m, vw r3 z = some (.int k) ∧ G3 g = some (.lst ds) ∧ ixN ds.length k = some m ∧ D0.nx r3 (updG G3 g (.lst (ds.set m d))))
    (ha : ∀ v, assign (.Subscript o a tpos) X.env v = (do
      let ov ← holding [v] (eval o X.env)
      let iv ← holding [v, ov] (eval a X.env)
      standAt tpos
      holding [v, ov, iv] (setItem ov iv v)
      release [v, ov, iv] []) := by intro _; rfl)
    (hs : swapsWithSole [.Subscript o a tpos] e pos.line X.env = pure false := by rfl) (hw : swappedStores [.Subscript o a tpos] e X.env = pure none := by rfl)
    (h1 : (assignEach [.Subscript o a tpos] X.env).map (·.2) = [assign (.Subscript o a tpos) X.env] := by rfl) : WS X (.Assign [.Subscript o a tpos] e pos) r G D0 := fun F0 T F H σ lk S =>
  RunS.of (ps_asg peR (pg_sub peR peR set_list ha) hs hw h1) ((h F0 T F H σ lk S).mono fun v H1 ⟨y, r1, G1, F1, e1, S1, k1, d, r1', q1, q2⟩ => by
    obtain ⟨F1', e1', S1', rp⟩ := S1.fz k1 q1
    refine (q2 F0 T F1' H1 σ lk S1').mono fun vo H2 ⟨x, r2, G2, F2, e2, S2, k2, g, hx, q3⟩ => ?_
    subst hx
    cases (show vo = .ref g from k2)
    refine (q3 F0 T F2 H2 σ lk S2).mono fun vi H3 ⟨z, r3, G3, F3, e3, S3, k3, k, ds, m, q4, q5, q6, q7⟩ => ?_
    cases (S3.view k3 q4).int
    obtain ⟨vs, z1, z2⟩ := S3.bas.gh _ _ q5
    exact ⟨g, vs, k, m, rfl, rfl, z1, by rw [z2.length]; exact q6, r3, _, F3, S3.gput (d := .lst (ds.set m d)) q5 ⟨_, upd_same, z2.set m (Rep.mono (e2.trans e3) _ _ rp)⟩, q7⟩)
theorem mutG_end {id : String} {ds args : List D} {g : Addr} {F0 T F F1 H : Hp} {σ : L2.St} {us : List V} {Q : Res → Env2 → GD → Prop} (e1 : Ex F F1) (S : Sta X.K F0 T F1 G H r σ) (hg : G g = some (.lst ds)) (ha : RepL X.K F1 args us)
    (h : MutW X id ds args fun res ds' => Q (.sh res) r (updG G g (.lst ds'))) : mtU X id (.ref g) us H (PostE X.K F0 T F σ Q) := by
  obtain ⟨vs, h2, h3⟩ := S.bas.gh _ _ hg
  obtain ⟨rr, k1, k2⟩ := h F1 H g vs us h2 (S.bas.fg _ _ hg) S.bas.fh h3 ha
  refine ⟨_, MtR.post k1 _, k2, fun v' H' ⟨vs', res, ds', z1, z2, z3, z4⟩ => ?_⟩
  subst z1
  exact ⟨.sh res, _, _, F1, e1, S.gput (d := .lst ds') hg ⟨vs', upd_same, z3⟩, z2, z4⟩
theorem we_m1G {name : Str} {id : String} {Q : Res → Env2 → GD → Prop} (pa : PlainAttrs "list") (slot : Slot "list" name id) (hty : typeOf (.builtin id) = pure (.type "method_descriptor"))
    (h : WE X o r G fun x r1 G1 => ∃ g ds0, x = .sh (.adr g) ∧ G1 g = some (.lst ds0) ∧ WE X e r1 G1 fun y r2 G2 => ∃ d r3 ds, fz r2 y = some (d, r3) ∧ G2 g = some (.lst ds) ∧ MutW X id ds [d] fun res ds' => Q (.sh res) r3 (updG G2 g (.lst ds')))
    (hbase : attributeBase o name X.env (eval o X.env) = eval o X.env := by rfl)
    (hfew : ((backTo cpos (starEach [e] X.env)).all (fun x => !x.1) && (backToKw cpos (keywordEach [] X.env)).all (fun x => x.1.isSome) && decide (([e] : List Expr).length + ([] : List Keyword).length + (if ([] : List Keyword).isEmpty then 0 else 1) < 30)) = true := by rfl)
    (hline : (apos.endLine == cpos.line) = true := by rfl) (hs : starEach [e] X.env = (false, eval e X.env) :: starEach [] X.env := by rfl) (hplain : (backTo cpos (starEach [] X.env)).any (·.1) = false := by rfl) :
    WE X (.Call (.Attribute o name apos) [e] [] cpos) r G Q := fun F0 T F H σ lk S =>
  Run.of (pe_bm pa slot hty mtU_ok peR (pa_cons peR pa_nil hs) hbase hfew hline hs hplain) ((h F0 T F H σ lk S).mono fun v H1 ⟨x, r1, G1, F1, e1, S1, k1, g, ds0, hx, hg0, h1⟩ => by
    subst hx
    cases (show v = .ref g from k1)
    obtain ⟨vs, h2, h3⟩ := S1.bas.gh _ _ hg0
    refine ⟨.inl ⟨rfl, vs, .inl (.inl h2)⟩, (h1 F0 T F1 H1 σ lk S1).mono fun w H2 ⟨y, r2, G2, F2, e2, S2, k2, d, r3, ds, q1, q2, q3⟩ => ?_⟩
    obtain ⟨F3, e3, S3, rp⟩ := S2.fz k2 q1
    exact mutG_end ((e1.trans e2).trans e3) S3 q2 (.one rp) q3)
theorem Sta.lock {K : PySem.W.Frag} {F0 T F : Hp} {G : GD} {H : Hp} {r : Env2} {σ : L2.St} (S : Sta K F0 T F G H r σ) {p : Addr} {ks : List Key} {ds : List D} {vs : List V} {o : Obj} (hp : H p = some (.dK (ks.zip vs))) (hl : ks.length = ds.length) (hv : RepL K F ds vs) (h1 : F p = none) (h2 : G p = none) (h3 : T p = none)
    (h4 : ∀ (i : Nat) (e : D), r[i]? = some (.own e) → σ[i]? ≠ some (some (.ref p))) :
    Ex F (upd F p (.frz o (.dK (ks.zip vs)))) ∧ Sta K F0 T (upd F p (.frz o (.dK (ks.zip vs)))) G (upd H p (.frz o (.dK (ks.zip vs)))) r σ ∧ Rep K (upd F p (.frz o (.dK (ks.zip vs)))) (.dic ks ds) (.ref p) := by
  have ef : Ex F (upd F p (.frz o (.dK (ks.zip vs)))) := Ex.new h1
  refine ⟨ef, ⟨(S.bas.put h1 h2 h3).frz upd_same h1 h2 h3, S.len, fun i s e => ?_, S.ap⟩, p, o, vs, rfl, upd_same, hl, RepL.mono ef _ _ hv⟩
  have q := S.sl i s e
  cases s with
  | no => trivial
  | sh d => obtain ⟨v, q1, q2⟩ := q; exact ⟨v, q1, Rep.mono ef _ _ q2⟩
  | own d =>
    obtain ⟨p', q1, q2, q3, q4, q5⟩ := q
    have hne : p' ≠ p := fun z => by subst z; exact h4 i d e q1
    exact ⟨p', q1, q2.mono ef fun u hu => by rw [upd_ne hne]; exact hu, by rw [upd_ne hne]; exact q3, q4, q5⟩
/-- a dict that was just made -/
theorem we_lock {Q : Res → Env2 → GD → Prop} (h : WE X e r G fun x r1 G1 => ∃ ks ds, x = .fr (.dic ks ds) ∧ Q (.sh (.dic ks ds)) r1 G1) : WE X e r G Q := fun F0 T F H σ lk S pins s I =>
  wpAny_mono (h F0 T F H σ lk S pins s I) (fun u s' ⟨v, H', I', rv, x, r1, G1, F1, e1, S1, k1, ks, ds, hx, q⟩ => by
    subst hx
    obtain ⟨p, rfl, ⟨vs, z1, z2, z3⟩, h3, h4, h5, h6⟩ := k1
    obtain ⟨o, I2⟩ := I'.lock z1 (by first | trivial | exact .inl rfl | decide)
    obtain ⟨ef, S2, rp⟩ := S1.lock (o := o) z1 z2 z3 h3 h4 h5 h6
    exact ⟨.ref p, _, I2, rv, .sh (.dic ks ds), r1, G1, _, e1.trans ef, S2, rp, q⟩) fun _ _ x => x
theorem Sta.lockSlot {K : PySem.W.Frag} {F0 T F : Hp} {G : GD} {H : Hp} {r : Env2} {σ : L2.St} (S : Sta K F0 T F G H r σ) {i : Nat} {ks : List Key} {ds : List D} (h : r[i]? = some (.own (.dic ks ds))) : ∃ p vs, H p = some (.dK (ks.zip vs)) ∧ σ[i]? = some (some (.ref p)) ∧ ∀ o,
    ∃ F', Ex F F' ∧ Sta K F0 T F' G (upd H p (.frz o (.dK (ks.zip vs)))) (r.set i (.sh (.dic ks ds))) σ ∧ Rep K F' (.dic ks ds) (.ref p) := by
  obtain ⟨p, h1, ⟨vs, z1, z2, z3⟩, h3, h4, h5⟩ := S.ownS h
  have hi : i < r.length := (List.getElem?_eq_some_iff.mp h).1
  refine ⟨p, vs, z1, h1, fun o => ?_⟩
  have S0 : Sta K F0 T F G H (r.set i .no) σ := by
    refine ⟨S.bas, by rw [List.length_set]; exact S.len, fun j s e => ?_, fun j k d e hjk ej ek => ?_⟩
    · by_cases hj : i = j
      · subst hj; rw [List.getElem?_set_self hi] at e; cases e; trivial
      · rw [List.getElem?_set_ne hj] at e; exact S.sl j s e
    · by_cases hj : i = j
      · subst hj; rw [List.getElem?_set_self hi] at ej; cases ej
      · by_cases hk : i = k
        · subst hk; rw [List.getElem?_set_self hi] at ek; cases ek
        · rw [List.getElem?_set_ne hj] at ej
          rw [List.getElem?_set_ne hk] at ek
          exact S.ap j k d e hjk ej ek
  obtain ⟨ef, S2, rp⟩ := S0.lock (o := o) z1 z2 z3 h3 h4 h5 fun j e hj zz => by
    by_cases hij : i = j
    · subst hij; rw [List.getElem?_set_self hi] at hj; cases hj
    · rw [List.getElem?_set_ne hij] at hj
      exact S.ap i j _ e hij h hj (h1.trans zz.symm)
  refine ⟨_, ef, ?_, rp⟩
  have := S2.set (i := i) (s := .sh (.dic ks ds)) (v := .ref p) (by rw [List.length_set]; exact hi) ⟨_, rfl, rp⟩ fun d z => nomatch z
  rw [List.set_set] at this
  have hσ : σ.set i (some (.ref p)) = σ := by
    refine List.ext_getElem? fun j => ?_
    by_cases hj : i = j
    · subst hj
      have hl : i < σ.length := by rw [← S.len]; exact hi
      rw [List.getElem?_set_self hl, h1]
    · rw [List.getElem?_set_ne hj]
  rw [hσ] at this
  exact this
/-- a dict of an own slot, as a result -/
theorem we_lockV {Q : Res → Env2 → GD → Prop} (h : WE X e r G fun x r1 G1 => ∃ i ks ds, x = .pk i ∧ r1[i]? = some (.own (.dic ks ds)) ∧ Q (.sh (.dic ks ds)) (r1.set i (.sh (.dic ks ds))) G1) : WE X e r G Q := fun F0 T F H σ lk S pins s I =>
  wpAny_mono (h F0 T F H σ lk S pins s I) (fun u s' ⟨v, H', I', rv, x, r1, G1, F1, e1, S1, k1, i, ks, ds, hx, hi, q⟩ => by
    subst hx
    obtain ⟨p, vs, z1, z2, hz⟩ := S1.lockSlot hi
    obtain ⟨k2, _⟩ := k1
    rw [k2] at z2; cases z2
    obtain ⟨o, I2⟩ := I'.lock z1 (by first | trivial | exact .inl rfl | decide)
    obtain ⟨F', ef, S2, rp⟩ := hz o
    exact ⟨.ref p, _, I2, rv, .sh (.dic ks ds), _, G1, F', e1.trans ef, S2, rp, q⟩) fun _ _ x => x
end
section
variable {X : Cy} {e a b c o tg : Expr} {es : List Expr} {st : Stmt} {sts rest body orelse : List Stmt} {r : Env2} {G : GD} {pos tpos apos cpos p0 : Pos} {D0 : EndsD}
theorem chain {op op' : CmpOp} {Q : Res → Env2 → GD → Prop} {F0 T F H : Hp} {σ : L2.St} (lk : Lk X F0 T) (S : Sta X.K F0 T F G H r σ)
    (h : WE X a r G fun x r1 G1 => WE X b r1 G1 fun y r2 G2 => ∃ da db, VwR r2 G2 x da ∧ VwR r2 G2 y db ∧ OpW X (compareOp op) da db fun z => ∃ k, z = .sh (.bl k) ∧ (k = true → WE X c r2 G2 fun w r3 G3 => ∃ db' dc, VwR r3 G3 y db' ∧ VwR r3 G3 w dc ∧ OpW X (compareOp op') db' dc fun u => Q u r3 G3) ∧ (k = false → Q (.sh (.bl false)) r2 G2)) :
    tChain (opU X (compareOp op)) (opU X (compareOp op')) (Run X a) (Run X b) (Run X c) σ H (PostE X.K F0 T F σ Q) := by
  refine (h F0 T F H σ lk S).mono fun va H1 ⟨x, r1, G1, F1, e1, S1, k1, h1⟩ => ?_
  obtain ⟨F1', e1', S1', hv⟩ := hold S1 k1
  refine (h1 F0 T F1' H1 σ lk S1').mono fun vb H2 ⟨y, r2, G2, F2, e2, S2, k2, da, db, q1, q2, q3⟩ => ?_
  obtain ⟨F2', e2', S2', hw⟩ := hold S2 k2
  obtain ⟨rr, h3, h4⟩ := q3 F0 T F2' G2 H2 r2 σ va vb S2' (hv F2' G2 H2 r2 da (e2.trans e2') S2' q1) (hw F2' G2 H2 r2 db (Ex.refl _) S2' q2)
  refine ⟨_, (show OpR X (compareOp op) (fun u w H Q' => rr u w H _ ∧ ∀ v H', _ → Q' v H') from fun pins s σ H x y v u Q' I rx ry ⟨q, m⟩ => wpAny_mono (h3 pins s σ H x y v u _ I rx ry q) (fun _ _ ⟨v, H', I', rl, q⟩ => ⟨v, H', I', rl, m v H' q⟩) fun _ _ x => x), h4, fun v H3 ⟨z, F3, e3, S3, k3, k, hz, m1, m2⟩ => ?_⟩
  subst hz
  refine ⟨k, k3, ?_⟩
  cases k with
  | false =>
    rw [if_neg Bool.false_ne_true]
    exact ⟨.sh (.bl false), r2, G2, F3, (((e1.trans e1').trans e2).trans e2').trans e3, S3, rfl, m2 rfl⟩
  | true =>
    rw [if_pos rfl]
    refine (m1 rfl F0 T F3 H3 σ lk S3).mono fun vc H4 ⟨w, r3, G3, F4, e4, S4, k4, db', dc, n1, n2, n3⟩ => ?_
    obtain ⟨rr2, h5, h6⟩ := n3 F0 T F4 G3 H4 r3 σ vb vc S4 (hw F4 G3 H4 r3 db' (e3.trans e4) S4 n1) (S4.viewR k4 n2)
    exact ⟨_, (show OpR X (compareOp op') (fun u w H Q' => rr2 u w H _ ∧ ∀ v H', _ → Q' v H') from fun pins s σ H x y v u Q' I rx ry ⟨q, m⟩ => wpAny_mono (h5 pins s σ H x y v u _ I rx ry q) (fun _ _ ⟨v, H', I', rl, q⟩ => ⟨v, H', I', rl, m v H' q⟩) fun _ _ x => x), h6, fun v H' ⟨z, F', l1, l2, l3, l4⟩ => ⟨z, r3, G3, F', (((((e1.trans e1').trans e2).trans e2').trans e3).trans e4).trans l1, l2, l3, l4⟩⟩
theorem we_chain {op op' : CmpOp} {Q : Res → Env2 → GD → Prop}
    (h : WE X a r G fun x r1 G1 => WE X b r1 G1 fun y r2 G2 => ∃ da db, VwR r2 G2 x da ∧ VwR r2 G2 y db ∧ OpW X (compareOp op) da db fun z => ∃ k, z = .sh (.bl k) ∧ (k = true → WE X c r2 G2 fun w r3 G3 => ∃ db' dc, VwR r3 G3 y db' ∧ VwR r3 G3 w dc ∧ OpW X (compareOp op') db' dc fun u => Q u r3 G3) ∧ (k = false → Q (.sh (.bl false)) r2 G2))
    (hm : lastMarks [op, op'] [b, c] = false := by with_unfolding_all rfl) : WE X (.Compare a [op, op'] [b, c] pos) r G Q := fun F0 T F H σ lk S => Run.of (pe_chain (opU_ok _) (opU_ok _) peR peR peR hm) (chain lk S h)
/-- lo <= x <= hi on ints -/
theorem we_chainI {op op' : CmpOp} {p q : Int → Int → Bool} {Q : Res → Env2 → GD → Prop} (ho : ∀ (i j : Int) (R : Res → Prop), R (.sh (.bl (p i j))) → OpW X (compareOp op) (.int i) (.int j) R) (ho' : ∀ (i j : Int) (R : Res → Prop), R (.sh (.bl (q i j))) → OpW X (compareOp op') (.int i) (.int j) R)
    (h : WE X a r G fun x r1 G1 => WE X b r1 G1 fun y r2 G2 => ∃ i j k, vw r2 x = some (.int i) ∧ vw r2 y = some (.int j) ∧ (p i j = true → WE X c r2 G2 fun w r3 G3 => r3 = r2 ∧ G3 = G2 ∧ vw r3 w = some (.int k)) ∧ Q (.sh (.bl (p i j && q j k))) r2 G2)
    (hm : lastMarks [op, op'] [b, c] = false := by with_unfolding_all rfl) : WE X (.Compare a [op, op'] [b, c] pos) r G Q :=
  we_chain (h.mono fun x r1 G1 h1 => h1.mono fun y r2 G2 ⟨i, j, k, q1, q2, q3, q4⟩ => ⟨_, _, .inl q1, .inl q2, ho i j _ ⟨p i j, rfl, fun hp => (q3 hp).mono fun w r3 G3 ⟨m1, m2, m3⟩ => ⟨_, _, .inl (by rw [m1]; exact q2), .inl m3, ho' j k _ (by subst m1 m2; rw [hp, Bool.true_and] at q4; exact q4)⟩, fun hp => by rw [hp, Bool.false_and] at q4; exact q4⟩⟩) hm
theorem wt_chainI {op op' : CmpOp} {p q : Int → Int → Bool} {Q : Bool → Env2 → GD → Prop} (ho : ∀ (i j : Int) (R : Res → Prop), R (.sh (.bl (p i j))) → OpW X (compareOp op) (.int i) (.int j) R) (ho' : ∀ (i j : Int) (R : Res → Prop), R (.sh (.bl (q i j))) → OpW X (compareOp op') (.int i) (.int j) R)
    (h : WE X a r G fun x r1 G1 => WE X b r1 G1 fun y r2 G2 => ∃ i j k, vw r2 x = some (.int i) ∧ vw r2 y = some (.int j) ∧ (p i j = true → WE X c r2 G2 fun w r3 G3 => r3 = r2 ∧ G3 = G2 ∧ vw r3 w = some (.int k)) ∧ Q (p i j && q j k) r2 G2)
    (hm : lastMarks [op, op'] [b, c] = false := by with_unfolding_all rfl) : WT X (.Compare a [op, op'] [b, c] pos) r G Q := fun F0 T F H σ lk S =>
  RunT.of (pt_chain (opU_ok _) (opU_ok _) peR peR peR hm) (by
    have base := we_chainI (pos := pos) (Q := isB Q) ho ho' (h.mono fun x r1 G1 h1 => h1.mono fun y r2 G2 ⟨i, j, k, q1, q2, q3, q4⟩ => ⟨i, j, k, q1, q2, q3, ⟨_, rfl, q4⟩⟩) hm
    have z := chain (Q := isB Q) lk S (h.mono fun x r1 G1 h1 => h1.mono fun y r2 G2 ⟨i, j, k, q1, q2, q3, q4⟩ => ⟨_, _, .inl q1, .inl q2, ho i j _ ⟨p i j, rfl, fun hp => (q3 hp).mono fun w r3 G3 ⟨m1, m2, m3⟩ => ⟨_, _, .inl (by rw [m1]; exact q2), .inl m3, ho' j k _ (by subst m1 m2; rw [hp, Bool.true_and] at q4; exact ⟨_, rfl, q4⟩)⟩, fun hp => by rw [hp, Bool.false_and] at q4; exact ⟨_, rfl, q4⟩⟩⟩)
    refine Run.mono z fun va H1 z1 => Run.mono z1 fun vb H2 ⟨rr, h3, h4⟩ => ⟨_, (show OpR X (compareOp op) (fun u w H Q' => rr u w H _ ∧ ∀ v H', _ → Q' v H') from fun pins s σ H x y v u Q' I rx ry ⟨q, m⟩ => wpAny_mono (h3 pins s σ H x y v u _ I rx ry q) (fun _ _ ⟨v, H', I', rl, q⟩ => ⟨v, H', I', rl, m v H' q⟩) fun _ _ x => x), h4, fun v H3 ⟨k, hk, hz⟩ => ⟨k, hk, ?_⟩⟩
    cases k with
    | false => rw [if_neg Bool.false_ne_true] at hz ⊢; exact postB hz
    | true =>
      rw [if_pos rfl] at hz ⊢
      refine Run.mono hz fun vc H4 ⟨rr2, h5, h6⟩ => ⟨_, (show OpR X (compareOp op') (fun u w H Q' => rr2 u w H _ ∧ ∀ v H', _ → Q' v H') from fun pins s σ H x y v u Q' I rx ry ⟨q, m⟩ => wpAny_mono (h5 pins s σ H x y v u _ I rx ry q) (fun _ _ ⟨v, H', I', rl, q⟩ => ⟨v, H', I', rl, m v H' q⟩) fun _ _ x => x), h6, fun v H' z' => postB z'⟩)
theorem ww_orB {Q : Bool → Env2 → GD → Prop} (h : WT X a r G fun c1 r1 G1 => ∃ c2, (c1 = false → WW X (.BoolOp .Or (b :: es) pos) r1 G1 fun d r2 G2 => d = c2 ∧ r2 = r1 ∧ G2 = G1) ∧ Q (c1 || c2) r1 G1) : WW X (.BoolOp .Or (a :: b :: es) pos) r G Q :=
  ww_or (h.mono fun c1 r1 G1 ⟨c2, h1, h2⟩ => ⟨fun hc => fun F0 T F H σ lk S w pins s I => wpAny_mono (h1 hc F0 T F H σ lk S w pins s I) (fun _ _ ⟨H', I', r', G', F', k1, k2, k3, k4, k5⟩ => ⟨H', I', r', G', F', k1, k2, by subst k3 k4 k5; rw [hc, Bool.false_or] at h2; exact h2⟩) fun _ _ x => x, fun hc => by rw [hc, Bool.true_or] at h2; exact h2⟩)
structure Cal (P : Program) (w : World) (K : PySem.W.Frag) (mg : Str → Option Value) (base : Heap) (x : Str) (k : Nat) (ps : List Str) (sp : FSp) : Prop where
  ex : ∃ (f : Addr) (fd : FuncData), FnOk P w K mg base (CX P w) k f fd ps (spD K sp) ∧ mg x = some (.ref f) ∧ PySem.W.keepIn K (.ref f) = true ∧ Binds K fd ps []
theorem we_cal {x : Str} {k j : Nat} {ps : List Str} {sp : FSp} {Q : Res → Env2 → GD → Prop} (tk : X.Tk) (C : Cal X.prog X.w X.K X.mg X.base x k ps sp) (hr : Room j X.A) (hg : Gl X x) (h : WA X (e :: es) r G fun ds r1 G1 => sp ds G1 (fun z G2 => Q z r1 G2) (fun x G2 => X.QX x r1 G2)) (hj : k ≤ j := by omega)
    (hdb : (x == ("__debug__" : Str)) = false := by decide) (he : starEach (e :: es) X.env = (false, eval e X.env) :: starEach es X.env := by rfl) (hpl : (backTo pos (starEach es X.env)).any (·.1) = false := by rfl) : WE X (.Call (.Name x p0) (e :: es) [] pos) r G Q := by
  obtain ⟨f, fd, h1, h2, h3, h4⟩ := C.ex
  exact we_call tk h1 (hr.mono hj) hg h2 h3 h4 h hdb he hpl
structure PropD (P : Program) (w : World) (K : PySem.W.Frag) (mg : Str → Option Value) (base : Heap) (C : Addr) (f : Str) (k : Nat) (sp : FSp) : Prop where
  ex : ∃ (p g : Addr) (fd : FuncData), PySem.W.findIn K (.ref C) f = some (some (.ref p)) ∧ PySem.W.specialIn K (.ref p) "__get__" = some (some (.builtin "property.__get__")) ∧ PySem.W.takesIn K (.ref p) = some true ∧ (∃ rest, PySem.W.recIn K p "property" = some (.ref g :: rest)) ∧
    FnOk P w K mg base (CX P w) k g fd ["self"] (spD K sp) ∧ Binds K fd ["self"] []
theorem fnr {P : Program} {w : World} {K : PySem.W.Frag} {mg : Str → Option Value} {base : Heap} {CX : CXT} {k : Nat} {f : Addr} {fd : FuncData} {ps : List Str} {sp : Sp} (F : FnOk P w K mg base CX k f fd ps sp) (hb : Binds K fd ps []) : FnR P w K mg base CX k f sp :=
  (F.raw hb .nil).imp fun vs H Q E h => by rw [List.append_nil]; exact h
/-- a promise met from a state, no exception leaves -/
theorem spD_of0 {F0 T F F1 H : Hp} {σ : L2.St} {sp : FSp} {ds : List D} {vs : List V} {Q : Res → Env2 → GD → Prop} (S : Sta X.K F0 T F1 G H r σ) (e1 : Ex F F1) (ha : RepL X.K F1 ds vs) (h : sp ds G (fun z G2 => Q z r G2) (fun _ _ => False)) : spD X.K sp vs H (PostE X.K F0 T F σ Q) (fun _ _ _ => False) :=
  ⟨F1, G, ds, _, _, S.bas.fh, S.bas.gh, S.bas.fg, ha, h, fun x G' v H' F' hp B rt => ⟨x, r, G', F', e1.trans B.ff, S.after B, ResOk.after S B rt, hp⟩, fun x cls d G' H' F' hp B ex => hp⟩
theorem we_prop {f : Str} {C : Addr} {k j : Nat} {sp : FSp} {Q : Res → Env2 → GD → Prop} (c : SlX.SCls X.K C) (p : PropD X.prog X.w X.K X.mg X.base C f k sp) (hr : Room j X.A) (h : WE X e r G fun x r1 G1 => ∃ ds, vw r1 x = some (.ins C ds) ∧ sp [.ins C ds] G1 (fun z G2 => Q z r1 G2) (fun _ _ => False)) (hj : k + 1 ≤ j := by omega)
    (hb : attributeBase e f X.env (eval e X.env) = eval e X.env := by rfl) : WE X (.Attribute e f pos) r G Q := fun F0 T F H σ lk S => by
  obtain ⟨pa, g, fd, h1, h2, h3, h4, h5, h6⟩ := p.ex
  refine Run.of (SlX.pe_propSl (E := fun _ _ _ => False) peR c h1 h2 h3 h4 (fnr h5 h6) (hr.mono hj) (fun _ _ _ _ ⟨_, _, _, _, _, _, _, _, _, _, _, _, z⟩ => z) hb) ((h F0 T F H σ lk S).mono fun v H1 ⟨x, r1, G1, F1, e1, S1, k1, ds, q1, q2⟩ => ?_)
  obtain ⟨F1', e1', S1', hv⟩ := hold S1 k1
  have vv := hv F1' G1 H1 r1 _ (Ex.refl _) S1' (.inl q1)
  have rp : Rep X.K F1' (.ins C ds) v := by
    rcases vv with z | ⟨_, _, z⟩
    · exact z
    · exact z.elim
  obtain ⟨a, dx, vs, rfl, z1, z2⟩ := vv.ins S1'.bas.fh
  exact ⟨a, dx, vs.map some, rfl, z1, spD_of0 S1' (e1.trans e1') (.one rp) q2⟩
/-- a slot is read -/
theorem we_fld {f : Str} {C p : Addr} (i : Nat) {Q : Res → Env2 → GD → Prop} (c : SlX.SCls X.K C) (t : SlX.Slot1 X.K C f p i) (h : WE X e r G fun x r1 G1 => ∃ ds d, vw r1 x = some (.ins C ds) ∧ ds[i]? = some d ∧ Q (.sh d) r1 G1)
    (hb : attributeBase e f X.env (eval e X.env) = eval e X.env := by rfl) : WE X (.Attribute e f pos) r G Q := fun F0 T F H σ lk S => by
  refine Run.of (SlX.pe_sl peR hb) ((h F0 T F H σ lk S).mono fun v H1 ⟨x, r1, G1, F1, e1, S1, k1, ds, d, q1, q2, q3⟩ => ?_)
  obtain ⟨a, dx, vs, rfl, z1, z2⟩ := (S1.view k1 q1).ins S1.bas.fh
  obtain ⟨w, y1, y2⟩ := z2.get q2
  exact ⟨a, C, dx, p, vs.map some, i, w, rfl, z1, c, t, by rw [List.getElem?_map, y1]; rfl, .sh d, r1, G1, F1, e1, S1, y2, q3⟩
/-- the class of data, as far as isinstance asks -/
def tyD : D → Option Value
  | .non => some (.type "NoneType")
  | .bl _ => some (.type "bool")
  | .int _ => some (.type "int")
  | .str _ => some (.type "str")
  | .tup _ => some (.type "tuple")
  | .lst _ => some (.type "list")
  | .dic _ _ => some (.type "dict")
  | _ => none
theorem tyX_of {K : PySem.W.Frag} {F H : Hp} {d : D} {v : V} {t : Value} (ex : Ex F H) (h : Vw K F H d v) (e : tyD d = some t) : TyX K H v t := by
  cases d with
  | non => cases e; cases h.non; exact .base .non
  | bl b => cases e; cases h.bl; exact .base (.bl b)
  | int b => cases e; cases h.int; exact .base (.int b)
  | str b => cases e; cases h.str; exact .base (.str b)
  | tup ds =>
    cases e
    obtain ⟨a, vs, rfl, z1, _⟩ := h.tup ex
    rcases z1 with (z | ⟨ob, z⟩) | ⟨ob, its, n, z, zc, _⟩
    · exact .base (.tup z)
    · exact .fTuple z
    · exact .kTuple z zc
  | lst ds =>
    cases e
    obtain ⟨a, vs, rfl, z1, _⟩ := h.lst ex
    rcases z1 with z | ⟨ob, z⟩
    · exact .base (.lst z)
    · exact .base (.frz z)
  | dic ks ds =>
    cases e
    obtain ⟨a, vs, rfl, z1, _⟩ := h.dic ex
    rcases z1 with z | ⟨ob, z⟩
    · exact .base (.dK z)
    · exact .fDict z
  | ins C ds => cases e
  | adr a => cases e
  | obj _ _ _ => cases e
  | slo _ _ _ _ => cases e
  | xdo _ _ => cases e
  | scr _ => cases e
  | tab _ => cases e
  | hob _ _ => cases e
  | kd _ _ _ => cases e
/-- isinstance(x, T), T a built-in class -/
theorem we_isi {x y : Str} {n : String} {py : Pos} {Q : Res → Env2 → GD → Prop} (hg : Gl X x) (hm : X.mg x = none) (hv : bootBuiltins x = some (.builtin "isinstance")) (hg2 : Gl X y) (hm2 : X.mg y = none) (hv2 : bootBuiltins y = some (.type n))
    (h : WE X a r G fun z r1 G1 => ∃ d t c, VwR r1 G1 z d ∧ tyD d = some t ∧ PySem.W.kitOne X.K t (.type n) = some c ∧ Q (.sh (.bl c)) r1 G1)
    (hn : x ≠ "__name__" := by decide) (hdb : (x == ("__debug__" : Str)) = false := by decide) (hn2 : y ≠ "__name__" := by decide) (hdb2 : (y == ("__debug__" : Str)) = false := by decide)
    (he : starEach [a, .Name y py] X.env = (false, eval a X.env) :: starEach [.Name y py] X.env := by rfl) (he2 : starEach [.Name y py] X.env = (false, eval (.Name y py) X.env) :: starEach [] X.env := by rfl) (hpl : (backTo pos (starEach [.Name y py] X.env)).any (·.1) = false := by rfl) :
    WE X (.Call (.Name x p0) [a, .Name y py] [] pos) r G Q := fun F0 T F H σ lk S =>
  Run.of (pe_callB call_isi hg hm hv (pa_cons peR (pa_cons (pe_bltn (v := .ty n) hg2 hm2 hv2 rfl hn2 hdb2) pa_nil he2) he) hn hdb he hpl) ((h F0 T F H σ lk S).mono fun v H1 ⟨z, r1, G1, F1, e1, S1, k1, d, t, c, q1, q2, q3, q4⟩ =>
    ⟨v, .ty n, t, .type n, c, rfl, .ty n, tyX_of S1.bas.fh (S1.viewR k1 q1) q2, q3, .sh (.bl c), r1, G1, F1, e1, S1, rfl, q4⟩)
abbrev FSpI := List D → GD → (List D → GD → Prop) → (Exn → GD → Prop) → Prop
def spI (K : PySem.W.Frag) (C : Addr) (f : FSpI) : Sp := fun vs H Q E => ∃ (x dx : Addr) (us : List V) (F : Hp) (G : GD) (ds : List D) (post : List D → GD → Prop) (px : Exn → GD → Prop), vs = .ref x :: us ∧ H x = some (.ins C dx []) ∧ H dx = some (.own x) ∧ dx ≠ x ∧ F x = none ∧ F dx = none ∧ G x = none ∧ G dx = none ∧
  Ex F H ∧ (∀ a d, G a = some d → Own K F H a d) ∧ (∀ a o, G a = some o → F a = none) ∧ RepL K F ds us ∧ f ds G post px ∧
  (∀ ys G' H' F', post ys G' → Bas K F (fun a => if a = x ∨ a = dx then none else Tof G H a) F' G' H' → Rep K F' (.ins C ys) (.ref x) → Q .non H') ∧
  ∀ xn cls d G' H' F', px xn G' → Bas K F (fun a => if a = x ∨ a = dx then none else Tof G H a) F' G' H' → ExOk K F' cls d xn → E cls d H'
structure MakeD (P : Program) (w : World) (K : PySem.W.Frag) (mg : Str → Option Value) (base : Heap) (x : Str) (C : Addr) (k : Nat) (ps : List Str) (f : FSpI) : Prop where
  ex : ∃ (g : Addr) (fd : FuncData), Mk K C g ∧ mg x = some (.ref C) ∧ FnOk P w K mg base (CX P w) k g fd ps (spI K C f) ∧ Binds K fd ps []
def tMakeS (C : Addr) (sp : Sp) (E : L2.St → XK) (t : TA) : TE := fun σ H Q => t σ H fun vs H1 => ∀ x dx, H1 x = none → H1 dx = none → dx ≠ x →
  sp (.ref x :: vs) (upd (upd H1 dx (.own x)) x (.ins C dx [])) (fun v H2 => v = .non ∧ Q (.ref x) H2) (E σ)
theorem run_makeS {X : Cx} {CX : CXT} {k : Nat} {f C : Addr} {fd : FuncData} {ps : List Str} {sp : Sp} {E : L2.St → XK} {pins : List (Addr × Obj)} {σ : L2.St} {H : Hp} {s : Shared} {Q : VK} {us : List Value} {vs : List V} (M : Mk X.K C f) (F : FnOk X.prog X.w X.K X.mg X.base CX k f fd ps sp) (hr : Room (k + 1) X.A) (hb : Binds X.K fd ps [])
    (hx : PassesAt CX X σ (E σ)) (I : Inv X pins σ H s) (r : Vals vs us)
    (h : ∀ x dx, H x = none → H dx = none → dx ≠ x → sp (.ref x :: vs) (upd (upd H dx (.own x)) x (.ins C dx [])) (fun v H2 => v = .non ∧ Q (.ref x) H2) (E σ)) :
    wpAny (model X.prog X.w) X.A (call (.ref C) us) (EP X pins σ Q) X.xe s := by
  have hq := h (s.heap.objs.size + 1) s.heap.objs.size (I.hok.fresh (Nat.le_succ _)) (I.hok.fresh (Nat.le_refl _)) (Nat.ne_of_lt (Nat.lt_succ_self _))
  have I2 := Inv.made (C := C) I
  have r2 : Vals (V.ref (s.heap.objs.size + 1) :: vs) (Value.ref (s.heap.objs.size + 1) :: us) := .cons rfl r
  have hl : (Value.ref (s.heap.objs.size + 1) :: us ++ []).length = ps.length := by
    rw [List.append_nil]
    have e := r2.length
    rw [F.len _ _ _ _ hq] at e
    exact e.symm
  have hbb := hb _ (Value.ref (s.heap.objs.size + 1) :: us) I2.kIn hl
  rw [List.append_nil] at hbb
  refine wpAny_call (make_map (f := f) I.kIn M.makes M.init (beq_iff_eq.mp M.fn) (codeAny_mono (F.run _ X.stack _ _ ⟨Value.ref (s.heap.objs.size + 1) :: us, []⟩ (Value.ref (s.heap.objs.size + 1) :: us) _ _ (E σ) (hr.make C us [])
    (I2.env0.make C us []) hbb r2 hq) fun r s' hq' => ?_))
  cases r with
  | error e => exact hx pins _ _ e s' I2 hq'
  | ok fl =>
    cases fl with
    | ret u =>
      obtain ⟨v, H', I3, rv, ev, q3⟩ := I2.after hq'
      subst ev
      exact ⟨rv, ⟨V.ref (s.heap.objs.size + 1), H', I3, rfl, q3⟩⟩
    | next => exact False.elim hq'
    | brk => exact False.elim hq'
    | cont => exact False.elim hq'
theorem pe_makeS {X : Cx} {CX : CXT} {k : Nat} {f C : Addr} {fd : FuncData} {ps : List Str} {sp : Sp} {E : L2.St → XK} {x : Str} {p : Pos} {t : TA} (M : Mk X.K C f) (F : FnOk X.prog X.w X.K X.mg X.base CX k f fd ps sp) (hr : Room (k + 1) X.A) (hg : Gl X x) (hm : X.mg x = some (.ref C)) (hb : Binds X.K fd ps []) (hx : ∀ σ, PassesAt CX X σ (E σ))
    (ha : PA X (e :: es) t) (hdb : (x == ("__debug__" : Str)) = false := by decide) (he : starEach (e :: es) X.env = (false, eval e X.env) :: starEach es X.env := by rfl) (hpl : (backTo pos (starEach es X.env)).any (·.1) = false := by rfl) :
    PE X (.Call (.Name x p) (e :: es) [] pos) (tMakeS C sp E t) := by
  refine ⟨fun pins s σ H Q I h => ?_⟩
  refine wpAny_Call_Name_kw (ld_glob I hg hm ?_ hdb)
  refine PySem.W.callWith_K (h₀ := X.base) I.ok.mod.kin M.kp (thn (ha.run pos pins s σ H _ I h) fun us s1 ⟨vs, H1, I1, r, q⟩ => ⟨I1.kIn, ?_⟩) he hpl
  exact run_makeS M F hr hb (hx σ) I1 r q
theorem make_base {K : PySem.W.Frag} {F1 F' H1 H' : Hp} {G1 G' : GD} {ad dx C : Addr} (ha : H1 ad = none) (hd : H1 dx = none) (ex1 : Ex H1 (upd (upd H1 dx (.own ad)) ad (.ins C dx [])))
    (B : Bas K F1 (fun a => if a = ad ∨ a = dx then none else Tof G1 (upd (upd H1 dx (.own ad)) ad (.ins C dx [])) a) F' G' H') : Bas K F1 (Tof G1 H1) F' G' H' := by
  have sub : ∀ q u, Tof G1 H1 q = some u → (if q = ad ∨ q = dx then none else Tof G1 (upd (upd H1 dx (.own ad)) ad (.ins C dx [])) q) = some u := fun q u hq => by
    have hG : G1 q = none := by
      cases eg : G1 q with
      | none => rfl
      | some o => rw [Tof_some eg] at hq; cases hq
    rw [Tof_none hG] at hq
    have n1 : q ≠ ad := ne_of_none hq ha
    have n2 : q ≠ dx := ne_of_none hq hd
    rw [if_neg (by simp [n1, n2]), Tof_none hG]
    exact ex1 q u hq
  have down : ∀ q, (if q = ad ∨ q = dx then none else Tof G1 (upd (upd H1 dx (.own ad)) ad (.ins C dx [])) q) = none → Tof G1 H1 q = none := fun q z => by
    cases et : Tof G1 H1 q with
    | none => rfl
    | some w => rw [sub q w et] at z; cases z
  exact ⟨B.ff, fun q u hq => (B.ft q u hq).imp id (down q), B.fh, B.gh, B.fg, fun q u hq => down q (B.gt q u hq), fun q u hq => B.tk q u (sub q u hq)⟩
theorem we_make {x : Str} {C : Addr} {k j : Nat} {ps : List Str} {f : FSpI} {Q : Res → Env2 → GD → Prop} (tk : X.Tk) (M : MakeD X.prog X.w X.K X.mg X.base x C k ps f) (hr : Room j X.A) (hg : Gl X x) (h : WA X (e :: es) r G fun ds r1 G1 => f ds G1 (fun ys G2 => Q (.sh (.ins C ys)) r1 G2) (fun xn G2 => X.QX xn r1 G2)) (hj : k + 1 ≤ j := by omega)
    (hdb : (x == ("__debug__" : Str)) = false := by decide) (he : starEach (e :: es) X.env = (false, eval e X.env) :: starEach es X.env := by rfl) (hpl : (backTo pos (starEach es X.env)).any (·.1) = false := by rfl) : WE X (.Call (.Name x p0) (e :: es) [] pos) r G Q := fun F0 T F H σ lk S => by
  obtain ⟨g, fd, h1, h2, h3, h4⟩ := M.ex
  refine Run.of (pe_makeS h1 h3 (hr.mono hj) hg h2 h4 (fun σ => passAt tk σ) paR hdb he hpl) ((h F0 T F H σ lk S).mono fun vs H1 ⟨ds, r1, G1, F1, e1, S1, k1, q1⟩ => ?_)
  intro ad dx ha hd hne
  obtain ⟨f1, f2, f3⟩ := S1.bas.freshF ha
  obtain ⟨g1, g2, g3⟩ := S1.bas.freshF hd
  have ex1 : Ex H1 (upd (upd H1 dx (.own ad)) ad (.ins C dx [])) := fun q u hq => by
    rw [upd_ne (ne_of_none hq ha), upd_ne (ne_of_none hq hd)]; exact hq
  refine ⟨ad, dx, vs, F1, G1, ds, _, _, rfl, upd_same, by rw [upd_ne hne, upd_same], hne, f1, g1, f2, g2, S1.bas.fh.trans ex1, S1.bas.gmono (Ex.refl _) fun a o _ h => ex1 a o h, S1.bas.fg, k1, q1, fun ys G' H' F' hp B rp => ⟨rfl, ?_⟩, fun xn cls d G' H' F' hp B ex => ?_⟩
  · have B' := make_base ha hd ex1 B
    exact ⟨.sh (.ins C ys), r1, G', F', e1.trans B'.ff, S1.after B', rp, hp⟩
  · have B' := make_base ha hd ex1 B
    exact ⟨r1, G', F', xn, lk.sta (S1.after B'), ex, hp⟩
/-- a block, then statements by hand -/
theorem execs_app (env : Env) (post : List Stmt) : ∀ pre : List Stmt, execs (pre ++ post) env = execs pre env >>= fun f => match f with
    | .next => execs post env
    | f => pure f
  | [] => by
    rw [List.nil_append, execs, pure_bind]
  | st :: pre => by
    rw [List.cons_append, execs, execs, bind_assoc]
    congr 1
    funext f
    cases f with
    | next => exact execs_app env post pre
    | brk => rw [pure_bind]
    | cont => rw [pure_bind]
    | ret v => rw [pure_bind]
theorem runB_then {pre post : List Stmt} {E : Ends} {σ : L2.St} {H : Hp} (h : RunB X pre { E with nx := fun σ' H' => RunB X post E σ' H' } σ H) : RunB X (pre ++ post) E σ H := fun pins s I => by
  rw [execs_app]
  refine wpAny_bind (wpAny_mono (h pins s I) (fun f s' q => ?_) fun _ _ x => x)
  cases f with
  | next => obtain ⟨σ', H', I', q⟩ := q; exact q pins s' I'
  | brk => exact wpAny_pure q
  | cont => exact wpAny_pure q
  | ret v => exact wpAny_pure q
end
theorem bt_len : bootBuiltins "len" = some (.builtin "len") := by decide +kernel
theorem bt_int : bootBuiltins "int" = some (.type "int") := by decide +kernel
theorem bt_list : bootBuiltins "list" = some (.type "list") := by decide +kernel
theorem bt_tuple : bootBuiltins "tuple" = some (.type "tuple") := by decide +kernel
theorem bt_dict : bootBuiltins "dict" = some (.type "dict") := by decide +kernel
theorem bt_bool : bootBuiltins "bool" = some (.type "bool") := by decide +kernel
theorem bt_str : bootBuiltins "str" = some (.type "str") := by decide +kernel
theorem bt_sorted : bootBuiltins "sorted" = some (.builtin "sorted") := by decide +kernel
theorem bt_isinstance : bootBuiltins "isinstance" = some (.builtin "isinstance") := by decide +kernel
theorem bt_sum : bootBuiltins "sum" = some (.builtin "sum") := by decide +kernel
section
variable {prog : Program} {w : World} {A : Around} {E : Value → Shared → Prop} {s : Shared}
abbrev tIt (t : Addr) : Obj := { cls := .type "tuple_iterator", data := .fields #[.ref t, .int 0 0] }
abbrev enO (i : Addr) : Obj := { cls := .type "enumerate", data := .fields #[.none, .bool false, .ref i, rawInt 0, .none, .none] }
theorem meets_enumT (t : Addr) (its : Array Value) (o : Obj) (n : Nat) (ho : o.cls = .type "tuple" ∧ o.data = .seq its n) :
    Meets (Builtin.«enumerate.__new__» ⟨[.type "enumerate", .ref t], []⟩) (fun _ R s => s.heap.get? t = some o ∧
      R (.ok (.ret (.ref (s.heap.push (tIt t)).objs.size))) { s with heap := (s.heap.push (tIt t)).push (enO s.heap.objs.size) }) :=
  .of_wp fun prog w A R s h => by
    obtain ⟨c, dc, dt, sl⟩ := o
    obtain ⟨h1, h2⟩ := ho
    cases h1
    obtain ⟨hp, g, d, tk, os⟩ := s; obtain ⟨hl, h⟩ := h
    have sub := sub_enumerate
    have tup : Heap.IsTuple (Shared.heap ⟨hp, g, d, tk, os⟩) t its := ⟨_, hl, rfl, _, h2⟩
    wp_walk using AutoSeq1.wpAny_loadPart' hl
    refine wpAny_stack_any fun st => wpAny_pure ?_
    split
    · rename_i c _ _ _ _ _
      cases (c == Value.type "enumerate")
      all_goals
        wp_walk using AutoSeq1.wpAny_loadPart' hl, wpAny_pyIter_tuple tup
        exact ⟨_, rfl, h⟩
    · wp_walk using AutoSeq1.wpAny_loadPart' hl, wpAny_pyIter_tuple tup
      exact ⟨_, rfl, h⟩
theorem callEnumT {t : Addr} {its : Array Value} {Q : Value → Shared → Prop} (ht : s.heap.IsTuple t its)
    (h : ∀ h', IsEnum h' (s.heap.objs.size + 1) s.heap.objs.size 0 .none → h'.IsTupleIter s.heap.objs.size t 0 → (∀ b o, s.heap.get? b = some o → h'.get? b = some o) → Q (.ref (s.heap.objs.size + 1)) { s with heap := h' }) :
    wpAny (model prog w) A (call (.type "enumerate") [.ref t]) Q E s := by
  obtain ⟨o, ho, hc, n, hd⟩ := ht
  refine callType_new F.called_enumerate (by decide) (F.typeCall_enumerate_1 _) (F.newCall_enumerate_1 _) (fun obj => F.args_object_init_2 obj _) F.entry_enumerate_new (meets_enumT t its o n ⟨hc, hd⟩) ⟨ho, ?_⟩
  have z : (s.heap.push (tIt t)).objs.size = s.heap.objs.size + 1 := Heap.size_push ..
  show _ ∧ _
  rw [z]
  have he : IsEnum ((s.heap.push (tIt t)).push (enO s.heap.objs.size)) (s.heap.objs.size + 1) s.heap.objs.size 0 .none := by
    have q := Heap.get?_push_size (s.heap.push (tIt t)) (o := enO s.heap.objs.size) rfl
    rw [z] at q
    exact q
  exact ⟨⟨_, he, rfl⟩, h _ he ⟨_, Heap.get?_push_of_some _ (Heap.get?_push_size _ rfl), rfl, rfl⟩ fun b o x => Heap.get?_push_of_some _ (Heap.get?_push_of_some _ x)⟩
end
/-- the tuple at a, each item in a new pair -/
def ItU (K : PySem.W.Frag) (a : Addr) : It :=
  ⟨fun i H => ∃ (xs : List V) (x : V), SqT K H a xs ∧ xs[i]? = some x, fun i H v H' => ∃ T x, v = .ref T ∧ H T = none ∧ H' = upd H T (.tup [.int (i : Nat), x]) ∧ ∀ xs, SqT K H a xs → xs[i]? = some x, fun i H => ∃ xs : List V, SqT K H a xs ∧ xs.length = i⟩
theorem turn_enumT {P : Program} {w : World} {K : PySem.W.Frag} {elts : List Expr} {kk : Nat} {tpos : Pos} (a e it : Addr) (hae : a ≠ e) (hai : a ≠ it) :
    Turn P w K (.Tuple elts kk tpos) (ItU K a) [e, it] e (fun i h => (∃ old, IsEnum h e it ((i : Nat) : Int) old) ∧ h.IsTupleIter it a i ∧ e ≠ it) where
  mem := by simp
  obj := fun i h st b hb => by
    obtain ⟨⟨old, he⟩, ⟨o, ho, hc, hd⟩, _⟩ := st
    rcases (by simpa using hb : b = e ∨ b = it) with z | z
    · rw [z]; exact ⟨_, he, fun v q => nomatch q⟩
    · rw [z]; exact ⟨o, ho, fun v q => by rw [hd] at q; cases q⟩
  keep := fun i h h' ⟨⟨old, he⟩, hi, hne⟩ k => ⟨⟨old, k e (by simp) _ he⟩, hi.at fun o q => k it (by simp) o q, hne⟩
  item := by
    intro X hP hw hK hc i pins s σ H E I hf st hg
    subst hP hw hK
    obtain ⟨⟨old, he⟩, hit, hne⟩ := st
    obtain ⟨xs, x, hq, hx⟩ := hg
    obtain ⟨its, rv, p, hz⟩ := I.tuple hq
    obtain ⟨u, hu, ru⟩ := rv.get hx
    have hel : e < s.heap.objs.size := Heap.lt_size he
    have hil : it < s.heap.objs.size := by obtain ⟨_, q, _⟩ := hit; exact Heap.lt_size q
    have dr := Draws.tuple (prog := X.prog) (w := X.w) (A := X.A.in1) (I.ok.hd hc) it a hai its.toArray
    have lt : i < its.toArray.size := by
      have := (List.getElem?_eq_some_iff.mp hu).1
      simpa using this
    refine wpAny_pyNext_enum_itemD dr he ⟨hit, p⟩ lt hne (by simp [hne, hae.symm]) fun x' h' tk hv ho hit' hT hsz hk => ?_
    have ex : x' = u := by
      have : its[i]? = some x' := by simpa using hv
      rw [hu] at this; cases this; rfl
    subst ex
    refine ⟨_, rfl, wpAny_letOwnedTupleGo_enum (s := { s with heap := h', toks := tk + 1 }) ho fun h'' he' sb => ?_⟩
    have hT2 : h''.get? s.heap.objs.size = some { cls := .type "tuple", data := .seq #[.int i tk, x'] } := (sb.2 _ (Nat.ne_of_gt hel)).trans hT
    have new : ObjOk X.prog X.w (upd H s.heap.objs.size (.tup [.int (i : Nat), x])) h'' s.heap.objs.size (.tup [.int (i : Nat), x]) :=
      ⟨by show 2 ≤ sizeLine; decide, [.int i tk, x'], .cons ⟨_, rfl⟩ (.cons ru .nil), ⟨_, hT2, rfl, _, rfl⟩⟩
    have I1 : Inv X pins σ (upd H s.heap.objs.size (.tup [.int (i : Nat), x])) { s with heap := h'', toks := tk + 1 } :=
      I.turnedNew (ch := [e, it]) (fun b ob hb q => (sb.2 b (fun z => hb (by simp [z]))).trans (hk b ob (fun z => hb (by simp [z])) (fun z => hb (by simp [z])) q)) hf (Nat.le_refl _) new
    refine ⟨.ref s.heap.objs.size, _, I1, rfl, ⟨_, x, rfl, I.hok.fresh (Nat.le_refl _), rfl, fun ys hy => by rw [I.tuple_inj hy hq]; exact hx⟩, ⟨⟨x', he'⟩, hit'.1.at fun o q => (sb.2 it (Ne.symm hne)).trans q, hne⟩, fun b hb => ?_⟩
    have hb' : b < s.heap.objs.size := by
      rcases (by simpa using hb : b = e ∨ b = it) with z | z
      · rw [z]; exact hel
      · rw [z]; exact hil
    rw [upd_ne (Nat.ne_of_lt hb')]
    exact (hf b hb).1
  done := by
    intro X hP hw hK hc i pins s σ H E I hf st hg
    subst hP hw hK
    obtain ⟨⟨old, he⟩, hit, hne⟩ := st
    obtain ⟨xs, hq, hx⟩ := hg
    obtain ⟨its, rv, p, hz⟩ := I.tuple hq
    obtain ⟨f0, f1, f2, f3, f4, f5⟩ := hf it (by simp)
    have hl : its.toArray.size = i := by
      have := rv.length
      simp
      omega
    subst hl
    exact wpAny_pyNext_enum_endD (Draws.tuple (prog := X.prog) (w := X.w) (A := X.A.in1) (I.ok.hd hc) it a hai its.toArray) he ⟨hit, p⟩ fun h' eb => ⟨rfl, I.turned (t' := s.toks) (fun b o hb q => eb b o hb q) f0 f1 f3 f4 f5⟩
  self := fun A i s Q E ⟨⟨_, he⟩, _⟩ h => wpAny_pyIter_enum he h
def iEnumT (K : PySem.W.Frag) (ta : TA) : TI := fun σ H R => ta σ H fun vs H1 => ∃ a xs, vs = [.ref a] ∧ SqT K H1 a xs ∧ R (ItU K a) H1
theorem pi_enumT {X : Cx} {e : Expr} {ta : TA} {p pos tpos : Pos} {elts : List Expr} {kk : Nat} (hg : Gl X "enumerate") (hm : X.mg "enumerate" = none) (ha : PA X [e] ta) (hs : starEach [e] X.env = [(false, eval e X.env)] := by rfl) :
    PI X (.Tuple elts kk tpos) (.Call (.Name "enumerate" p) [e] [] pos) (iEnumT X.K ta) := by
  refine ⟨fun pins s σ H R I h => ?_⟩
  refine Call_ (ld_blt I hg hm boot_enumerate (PyProof.Rows.callWith_type1 (thn (ha.run pos pins s σ H _ I h) fun us s1 ⟨vs, H1, I1, r1, q1⟩ => ?_) hs rfl))
  obtain ⟨a, xs, ex, hq, q⟩ := q1
  subst ex
  cases r1 with
  | cons rl rr =>
    cases rr
    cases rl
    obtain ⟨its, rv, p', hz⟩ := I1.tuple hq
    have ha : a < s1.heap.objs.size := by obtain ⟨_, z, _⟩ := p'; exact Heap.lt_size z
    refine callEnumT (show s1.heap.IsTuple a its.toArray from p') fun h' he hit hk => wpAny_pyIter_enum he ?_
    refine ⟨s1.heap.objs.size + 1, [s1.heap.objs.size + 1, s1.heap.objs.size], _, _, H1, rfl, I1.kept (t' := s1.toks) hk, turn_enumT a (s1.heap.objs.size + 1) s1.heap.objs.size (Nat.ne_of_lt (Nat.lt_succ_of_lt ha)) (Nat.ne_of_lt ha), ⟨⟨.none, he⟩, hit, Nat.succ_ne_self _⟩, fun b hb => ?_, q⟩
    have hle : s1.heap.objs.size ≤ b := by
      rcases (by simpa using hb : b = s1.heap.objs.size + 1 ∨ b = s1.heap.objs.size) with z | z
      · rw [z]; exact Nat.le_succ _
      · rw [z]; exact Nat.le_refl _
    exact I1.fpOk hle (I1.hok.fresh hle)
def enumD (k : Nat) : List D → List D
  | [] => []
  | d :: ds => .tup [.int (k : Nat), d] :: enumD (k + 1) ds
theorem enumD_len : ∀ (ds : List D) (k : Nat), (enumD k ds).length = ds.length
  | [], _ => rfl
  | d :: ds, k => by unfold enumD; rw [List.length_cons, List.length_cons, enumD_len ds]
theorem enumD_get : ∀ {ds : List D} {k i : Nat} {x : D}, (enumD k ds)[i]? = some x → ∃ d, ds[i]? = some d ∧ x = .tup [.int ((k + i : Nat) : Int), d]
  | [], k, i, x, h => by simp [enumD] at h
  | d :: ds, k, 0, x, h => by
    unfold enumD at h
    simp at h
    exact ⟨d, rfl, h.symm⟩
  | d :: ds, k, i + 1, x, h => by
    unfold enumD at h
    rw [List.getElem?_cons_succ] at h
    obtain ⟨d', h1, h2⟩ := enumD_get h
    exact ⟨d', by rw [List.getElem?_cons_succ]; exact h1, by rw [h2, show k + 1 + i = k + (i + 1) by omega]⟩
theorem rep_pair {K : PySem.W.Frag} {F : Hp} {p : Addr} {d1 d2 : D} {v1 v2 : V} (hp : F p = none) (h1 : Rep K F d1 v1) (h2 : Rep K F d2 v2) : Rep K (upd F p (.tup [v1, v2])) (.tup [d1, d2]) (.ref p) :=
  ⟨p, [v1, v2], rfl, .inl (.inl upd_same), v1, [v2], rfl, Rep.mono (Ex.new hp) _ _ h1, .one (Rep.mono (Ex.new hp) _ _ h2)⟩
theorem none_F {F H : Hp} (e : Ex F H) {p : Addr} (h : H p = none) : F p = none := none_of e h
section
variable {X : Cy} {e e2 a b c o tg : Expr} {es elts : List Expr} {kk : Nat} {st : Stmt} {sts rest body orelse : List Stmt} {r : Env2} {G : GD} {pos tpos apos cpos p0 : Pos} {D0 : EndsD}
theorem wi_enumT {Q : List D → Env2 → GD → Prop} (hg : Gl X "enumerate") (hm : X.mg "enumerate" = none) (h : WE X a r G fun x r1 G1 => ∃ ds r2, fz r1 x = some (.tup ds, r2) ∧ (ds.length ≤ LIM → Q (enumD 0 ds) r2 G1)) (hst : starEach [a] X.env = [(false, eval a X.env)] := by rfl) :
    WI X (.Tuple elts kk tpos) (.Call (.Name "enumerate" p0) [a] [] pos) r G Q := fun F0 T F H σ lk S =>
  RunI.of (pi_enumT hg hm (pa_cons peR pa_nil hst) hst) ((h F0 T F H σ lk S).bl.mono fun v H1 ⟨bl, x, r1, G1, F1, e1, S1, k1, ds, r2, q1, q2⟩ => by
    obtain ⟨Fa, e2, Sa, rp⟩ := S1.fz k1 q1
    obtain ⟨ad, vs, rfl, z1, z2⟩ := rp
    have hlim : ds.length ≤ LIM := by rw [← z2.length]; exact bl.2.1 ad vs (Sa.bas.fh.sqT z1)
    refine ⟨ad, vs, rfl, Sa.bas.fh.sqT z1, enumD 0 ds, r2, G1, Fa, e1.trans e2, Sa, fun F H ea eh => ⟨⟨vs, eh.sqT (ea.sqT z1), by rw [enumD_len, z2.length]⟩, fun i d hi => ?_⟩, q2 hlim⟩
    obtain ⟨d', hd, rfl⟩ := enumD_get hi
    obtain ⟨v, h1, h2⟩ := z2.get hd
    refine ⟨⟨vs, v, eh.sqT (ea.sqT z1), h1⟩, fun x H' ⟨p, y, hx, hp, hH, hy⟩ => .inr ⟨p, _, hp, hH, hx, ?_⟩⟩
    have := hy vs (eh.sqT (ea.sqT z1))
    rw [h1] at this; cases this
    rw [Nat.zero_add]
    exact rep_pair (none_F eh hp) rfl (Rep.mono ea _ _ h2))
def kD : Key → D
  | .inl n => .int n
  | .inr s => .str s
theorem kD_rep {K : PySem.W.Frag} {F : Hp} (k : Key) : Rep K F (kD k) (kV k) := by cases k <;> rfl
theorem zip_get' {α β : Type} {xs : List α} {ys : List β} {i : Nat} {p : α × β} (h : (xs.zip ys)[i]? = some p) : xs[i]? = some p.1 ∧ ys[i]? = some p.2 := by
  obtain ⟨a, b⟩ := p
  exact List.getElem?_zip_eq_some.mp h
theorem zip_len {α β : Type} {xs : List α} {ys : List β} (h : xs.length = ys.length) : (xs.zip ys).length = xs.length := by rw [List.length_zip, h, Nat.min_self]
theorem Vw.loc {K : PySem.W.Frag} {F0 T F : Hp} {G : GD} {H : Hp} {r r2 : Env2} {σ : L2.St} {x : Res} {v : V} {ks : List Key} {ds : List D} (S : Sta K F0 T F G H r σ) (h : ResOk K T F G H r σ x v) (e : fz r x = some (.dic ks ds, r2)) : r2 = r ∧ Rep K F (.dic ks ds) v := by
  cases x with
  | sh d => cases e; exact ⟨rfl, h⟩
  | fr d =>
    have e' : (if isDic d then none else some (d, r)) = some (.dic ks ds, r2) := e
    split at e'
    · cases e'
    · rename_i hd
      cases e'
      exact absurd rfl hd
  | pk i =>
    obtain ⟨h1, d', h2⟩ := h
    have e' : (match r[i]? with | some (.own d) => if isDic d then none else some (d, r.set i (.sh d)) | _ => none) = some (.dic ks ds, r2) := e
    rw [h2] at e'
    dsimp only at e'
    split at e'
    · cases e'
    · rename_i hd
      cases e'
      exact absurd rfl hd
def itemD (kd : Key × D) : D := .tup [kD kd.1, kd.2]
theorem wi_items {Q : List D → Env2 → GD → Prop} (h : WE X e r G fun x r1 G1 => ∃ ks ds r2, fz r1 x = some (.dic ks ds, r2) ∧ (ks.length ≤ LIM → Q ((ks.zip ds).map itemD) r2 G1))
    (hbase : attributeBase e "items" X.env (eval e X.env) = eval e X.env := by rfl) (hline : (apos.endLine == cpos.line) = true := by rfl) : WI X (.Tuple elts kk tpos) (.Call (.Attribute e "items" apos) [] [] cpos) r G Q := fun F0 T F H σ lk S =>
  RunI.of (pi_items peR hbase hline) ((h F0 T F H σ lk S).bl.mono fun v H1 ⟨bl, x, r1, G1, F1, e1, S1, k1, ks, ds, r2, q1, q2⟩ => by
    obtain ⟨rfl, rp⟩ := Vw.loc S1 k1 q1
    obtain ⟨ad, ob, vs, rfl, z1, z2, z3⟩ := rp
    have hl : ks.length = vs.length := by rw [z3.length]; exact z2
    have hlim : ks.length ≤ LIM := by have := bl.2.2 ad _ (.inr ⟨ob, S1.bas.fh _ _ z1⟩); rw [zip_len hl] at this; exact this
    refine ⟨ad, ob, _, rfl, S1.bas.fh _ _ z1, (ks.zip ds).map itemD, r2, G1, F1, e1, S1, fun F H ea eh => ⟨⟨eh _ _ (ea _ _ z1), by rw [List.length_map, zip_len hl, zip_len z2]; exact Nat.le_refl _⟩, fun i d hi => ?_⟩, q2 hlim⟩
    rw [List.getElem?_map] at hi
    cases hk : (ks.zip ds)[i]? with
    | none => rw [hk] at hi; cases hi
    | some kd =>
      rw [hk] at hi
      cases hi
      obtain ⟨hk1, hk2⟩ := zip_get' hk
      have hlt : i < ks.length := (List.getElem?_eq_some_iff.mp hk1).1
      refine ⟨⟨eh _ _ (ea _ _ z1), by rw [zip_len hl]; exact hlt⟩, fun x H' ⟨p, k', v', hy, hx, hp, hH⟩ => .inr ⟨p, _, hp, hH, hx, ?_⟩⟩
      obtain ⟨y1, y2⟩ := zip_get' hy
      rw [hk1] at y1; cases y1
      obtain ⟨w, w1, w2⟩ := z3.get hk2
      rw [w1] at y2; cases y2
      exact rep_pair (none_F eh hp) (kD_rep _) (Rep.mono ea _ _ w2))
end
theorem rep_kD {K : PySem.W.Frag} {F : Hp} {k : Key} {v : V} (h : Rep K F (kD k) v) : v = kV k := by
  cases k with
  | inl i => exact h
  | inr x => exact h
def putD (acc : List (Key × D)) (k : Key) (d : D) : List (Key × D) :=
  if (acc.any fun kv => decide (kv.1 = k)) = true then acc.map (fun kv => if kv.1 = k then (kv.1, d) else kv) else acc ++ [(k, d)]
def DRep (K : PySem.W.Frag) (F : Hp) : List (Key × D) → List (Key × V) → Prop
  | [], us => us = []
  | p :: acc, us => ∃ u us', us = u :: us' ∧ u.1 = p.1 ∧ Rep K F p.2 u.2 ∧ DRep K F acc us'
theorem DRep.mono {K : PySem.W.Frag} {F F' : Hp} (e : Ex F F') : ∀ {acc : List (Key × D)} {us : List (Key × V)}, DRep K F acc us → DRep K F' acc us
  | [], _, h => h
  | p :: acc, _, ⟨u, us', h1, h2, h3, h4⟩ => ⟨u, us', h1, h2, Rep.mono e _ _ h3, h4.mono e⟩
theorem DRep.length {K : PySem.W.Frag} {F : Hp} : ∀ {acc : List (Key × D)} {us : List (Key × V)}, DRep K F acc us → us.length = acc.length
  | [], _, h => by rw [show _ = [] from h]; rfl
  | p :: acc, _, ⟨u, us', h1, h2, h3, h4⟩ => by rw [h1, List.length_cons, List.length_cons, h4.length]
theorem DRep.keys {K : PySem.W.Frag} {F : Hp} : ∀ {acc : List (Key × D)} {us : List (Key × V)}, DRep K F acc us → us.map (·.1) = acc.map (·.1)
  | [], _, h => by rw [show _ = [] from h]; rfl
  | p :: acc, _, ⟨u, us', h1, h2, h3, h4⟩ => by rw [h1, List.map_cons, List.map_cons, h4.keys, h2]
theorem DRep.vals {K : PySem.W.Frag} {F : Hp} : ∀ {acc : List (Key × D)} {us : List (Key × V)}, DRep K F acc us → RepL K F (acc.map (·.2)) (us.map (·.2))
  | [], _, h => by rw [show _ = [] from h]; rfl
  | p :: acc, _, ⟨u, us', h1, h2, h3, h4⟩ => by subst h1; exact ⟨u.2, us'.map (·.2), rfl, h3, h4.vals⟩
theorem DRep.of {K : PySem.W.Frag} {F : Hp} : ∀ {ks : List Key} {ds : List D} {vs : List V}, ks.length = ds.length → RepL K F ds vs → DRep K F (ks.zip ds) (ks.zip vs)
  | [], _, _, _, _ => by rw [List.zip_nil_left, List.zip_nil_left]; rfl
  | k :: ks, [], _, h, _ => by simp at h
  | k :: ks, d :: ds, _, h, ⟨v, vs', h1, h2, h3⟩ => by subst h1; exact ⟨(k, v), ks.zip vs', rfl, rfl, h2, DRep.of (by simpa using h) h3⟩
theorem DRep.append {K : PySem.W.Frag} {F : Hp} : ∀ {acc bcc : List (Key × D)} {us ws : List (Key × V)}, DRep K F acc us → DRep K F bcc ws → DRep K F (acc ++ bcc) (us ++ ws)
  | [], _, _, _, h, h' => by rw [show _ = [] from h]; exact h'
  | p :: acc, _, _, _, ⟨u, us', h1, h2, h3, h4⟩, h' => by subst h1; exact ⟨u, us' ++ _, rfl, h2, h3, h4.append h'⟩
theorem DRep.any {K : PySem.W.Frag} {F : Hp} (k : Key) : ∀ {acc : List (Key × D)} {us : List (Key × V)}, DRep K F acc us → (us.any fun kv => decide (kv.1 = k)) = acc.any fun kv => decide (kv.1 = k)
  | [], _, h => by rw [show _ = [] from h]; rfl
  | p :: acc, _, ⟨u, us', h1, h2, h3, h4⟩ => by subst h1; rw [List.any_cons, List.any_cons, h4.any k, h2]
theorem DRep.over {K : PySem.W.Frag} {F : Hp} {k : Key} {d : D} {v : V} (hv : Rep K F d v) : ∀ {acc : List (Key × D)} {us : List (Key × V)}, DRep K F acc us → DRep K F (acc.map fun kv => if kv.1 = k then (kv.1, d) else kv) (us.map fun kv => if kv.1 = k then (kv.1, v) else kv)
  | [], _, h => by rw [show _ = [] from h]; rfl
  | p :: acc, _, ⟨u, us', h1, h2, h3, h4⟩ => by
    subst h1
    refine ⟨_, _, List.map_cons, ?_, ?_, h4.over hv⟩
    · dsimp only
      rw [h2]
      by_cases hk : p.1 = k
      · rw [if_pos hk, if_pos hk]
      · rw [if_neg hk, if_neg hk]; exact h2
    · dsimp only
      rw [h2]
      by_cases hk : p.1 = k
      · rw [if_pos hk, if_pos hk]; exact hv
      · rw [if_neg hk, if_neg hk]; exact h3
theorem DRep.put {K : PySem.W.Frag} {F : Hp} {k : Key} {d : D} {v : V} {acc : List (Key × D)} {us : List (Key × V)} (h : DRep K F acc us) (hv : Rep K F d v) : DRep K F (putD acc k d) (putK us k v) := by
  unfold putD putK
  rw [h.any k]
  by_cases hk : (acc.any fun kv => decide (kv.1 = k)) = true
  · rw [if_pos hk, if_pos hk]; exact h.over hv
  · rw [if_neg hk, if_neg hk]; exact h.append ⟨(k, v), [], rfl, rfl, hv, rfl⟩
theorem zip_maps {α β : Type} : ∀ us : List (α × β), (us.map (·.1)).zip (us.map (·.2)) = us
  | [] => rfl
  | u :: us => by rw [List.map_cons, List.map_cons, List.zip_cons_cons, zip_maps us]
def dicD (acc : List (Key × D)) : D := .dic (acc.map (·.1)) (acc.map (·.2))
theorem own_dicD {K : PySem.W.Frag} {F H : Hp} {p : Addr} {acc : List (Key × D)} {us : List (Key × V)} (h : DRep K F acc us) (hp : H p = some (.dK us)) : Own K F H p (dicD acc) := by
  refine ⟨us.map (·.2), ?_, by rw [List.length_map, List.length_map], h.vals⟩
  rw [← h.keys, zip_maps]
  exact hp
section
variable {X : Cy} {e a b c o tg kx vx : Expr} {es : List Expr} {st : Stmt} {sts rest body orelse : List Stmt} {r : Env2} {G : GD} {pos tpos p0 : Pos} {D0 : EndsD}
def DcTurn (X : Cy) (scope : Scope) (tg kx vx : Expr) (ifs : List Expr) (is : List Nat) (d : D) (acc : List (Key × D)) (r : Env2) (G : GD) (Nx : List (Key × D) → Env2 → GD → Prop) : Prop :=
  ∀ Y, BlkX X scope Y → WG Y tg d r G is fun r1 G1 => match ifs with
    | [] => ∀ Y, BlkX X scope Y → WE Y kx r1 G1 fun z r2 G2 => ∃ k, z = .sh (kD k) ∧ ∀ Y, BlkX X scope Y → WE Y vx r2 G2 fun z' r3 G3 => ∃ d' r4, fz r3 z' = some (d', r4) ∧ acc.length < LIM ∧ Nx (putD acc k d') (wipeD r4 is) G3
    | [c] => ∀ Y, BlkX X scope Y → WT Y c r1 G1 fun b r2 G2 => (b = true → ∀ Y, BlkX X scope Y → WE Y kx r2 G2 fun z r3 G3 => ∃ k, z = .sh (kD k) ∧ ∀ Y, BlkX X scope Y → WE Y vx r3 G3 fun z' r4 G4 => ∃ d' r5, fz r4 z' = some (d', r5) ∧ acc.length < LIM ∧ Nx (putD acc k d') (wipeD r5 is) G4) ∧ (b = false → Nx acc (wipeD r2 is) G2)
    | _ => False
theorem dc_turn {scope : Scope}  {ifs : List Expr} {is : List Nat} {d : D} {acc : List (Key × D)} {Nx : List (Key × D) → Env2 → GD → Prop} {F0 T F H : Hp} {σ : L2.St} {v : V} {L : Addr} {us : List (Key × V)}
    (lk : Lk X F0 T) (S : Sta X.K F0 (upd T L (.dK us)) F G H r (L2.wipe σ is)) (hT : T L = none) (h0 : F0 L = none) (ha : DRep X.K F0 acc us) (rp : Rep X.K F d v) (h : DcTurn X scope tg kx vx ifs is d acc r G Nx) {Pn : Hp → Prop}
    (hN : ∀ acc' us' r' G' F' H', Nx acc' r' G' → DRep X.K F' acc' us' → Sta X.K F0 (upd T L (.dK us')) F' G' H' r' (L2.wipe σ is) → Pn H') :
    blkG X scope tg v (L2.wipe σ is) H fun σ2 H2 => L2.wipe σ2 is = L2.wipe σ is ∧ blkT X scope ifs σ2 H2 fun b H3 =>
      if b = true then blkE X scope kx σ2 H3 fun y H4 => blkE X scope vx σ2 H4 fun z H5 => ∃ kvs k, y = kV k ∧ H5 L = some (.dK kvs) ∧ kvs.length < sizeLine ∧ Pn (upd H5 L (.dK (putK kvs k z))) else Pn H3 := by
  have wi : L2.wipe (L2.wipe σ is) is = L2.wipe σ is := by
    have aux : ∀ (js : List Nat) (τ : L2.St), (∀ j ∈ js, ∀ x, τ[j]? = some x → x = none) → L2.wipe τ js = τ := by
      intro js
      induction js with
      | nil => intro τ _; rfl
      | cons j js ih =>
        intro τ hτ
        unfold L2.wipe
        rw [ih τ fun k hk => hτ k (List.mem_cons_of_mem _ hk)]
        refine List.ext_getElem? fun k => ?_
        by_cases hjk : j = k
        · subst hjk
          by_cases hl : j < τ.length
          · rw [List.getElem?_set_self hl]
            cases e : τ[j]? with
            | none => rw [List.getElem?_eq_none_iff] at e; omega
            | some x => rw [hτ j List.mem_cons_self x e]
          · rw [List.getElem?_eq_none (by rw [List.length_set]; omega), List.getElem?_eq_none (by omega)]
        · rw [List.getElem?_set_ne hjk]
    refine aux is _ fun j hj x hx => ?_
    cases x with
    | none => rfl
    | some y => exact absurd hj (wipe_some hx).2
  have fin : ∀ (F2 : Hp) (G2 : GD) (H4 : Hp) (r2 r3 : Env2) (σ2 : L2.St) (z : Res) (y : V) (k : Key) (d' : D), L2.wipe σ2 is = L2.wipe σ is → Sta X.K F0 (upd T L (.dK us)) F2 G2 H4 r2 σ2 → ResOk X.K (upd T L (.dK us)) F2 G2 H4 r2 σ2 z y → fz r2 z = some (d', r3) → acc.length < LIM → Nx (putD acc k d') (wipeD r3 is) G2 →
      ∃ kvs k', kV k = kV k' ∧ H4 L = some (.dK kvs) ∧ kvs.length < sizeLine ∧ Pn (upd H4 L (.dK (putK kvs k' y))) := fun F2 G2 H4 r2 r3 σ2 z y k d' hw S2 k2 q1 q2 q3 => by
    obtain ⟨F3, e3, S3, rp3⟩ := S2.fz k2 q1
    have hL : H4 L = some (.dK us) := S3.bas.tk L _ upd_same
    have ha3 : DRep X.K F3 acc us := DRep.mono S3.bas.ff ha
    have fL : F3 L = none := by
      cases e : F3 L with
      | none => rfl
      | some u =>
        rcases S3.bas.ft L u e with zz | zz
        · rw [h0] at zz; cases zz
        · rw [upd_same] at zz; cases zz
    have gL : G2 L = none := by
      cases e : G2 L with
      | none => rfl
      | some u => have zz := S3.bas.gt L u e; rw [upd_same] at zz; cases zz
    refine ⟨us, k, rfl, hL, by rw [ha3.length]; exact lim_lt q2, hN _ (putK us k y) _ G2 F3 _ q3 (ha3.put rp3) ?_⟩
    have Sw := S3.wipe is hw
    refine ⟨⟨Sw.bas.ff, fun q u hq => ?_, fun q u hq => ?_, fun q u hq => ?_, Sw.bas.fg, fun q u hq => ?_, fun q u hq => ?_⟩, Sw.len, fun i s hs => ?_, Sw.ap⟩
    · have hqL : q ≠ L := fun zz => by subst zz; rw [fL] at hq; cases hq
      have := Sw.bas.ft q u hq
      rw [upd_ne hqL] at this ⊢
      exact this
    · have hqL : q ≠ L := fun zz => by subst zz; rw [fL] at hq; cases hq
      rw [upd_ne hqL]; exact Sw.bas.fh q u hq
    · have hqL : q ≠ L := fun zz => by subst zz; rw [gL] at hq; cases hq
      exact (Sw.bas.gh q u hq).mono (Ex.refl _) fun o ho => by rw [upd_ne hqL]; exact ho
    · have hqL : q ≠ L := fun zz => by subst zz; rw [gL] at hq; cases hq
      have := Sw.bas.gt q u hq
      rw [upd_ne hqL] at this ⊢
      exact this
    · by_cases hqL : q = L
      · subst hqL; rw [upd_same] at hq ⊢; exact hq
      · rw [upd_ne hqL] at hq ⊢
        exact Sw.bas.tk q u (by rw [upd_ne hqL]; exact hq)
    · have hh := Sw.sl i s hs
      cases s with
      | no => trivial
      | sh d => exact hh
      | own d =>
        obtain ⟨p, k1, k3, k4, k5, k6⟩ := hh
        have hpL : p ≠ L := fun zz => by subst zz; rw [upd_same] at k6; cases k6
        rw [upd_ne hpL] at k6
        exact ⟨p, k1, k3.mono (Ex.refl _) (fun u hu => by rw [upd_ne hpL]; exact hu), k4, k5, by rw [upd_ne hpL]; exact k6⟩
  intro Y hY pins s u I rv
  have lk' : Lk X F0 (upd T L (.dK us)) := lk.ext (Ex.new hT)
  have hYK : Y.K = X.K := hY.k
  have h' := h Y hY
  unfold WG at h'
  rw [hYK] at h'
  refine wpAny_mono (h' F0 (upd T L (.dK us)) F H (L2.wipe σ is) v (hY.lk lk') S rp pins s u I rv) (fun _ s' ⟨σ', H', I', hw, r', G', F', e', S', q⟩ => ⟨σ', H', I', hw.trans wi, ?_⟩) fun _ _ x => x
  have hw' := hw.trans wi
  match ifs, q with
  | [], q =>
    unfold blkT
    dsimp only
    rw [if_pos rfl]
    intro Z hZ
    have q' := q Z hZ
    unfold WE at q'
    rw [hZ.k] at q'
    refine (q' F0 _ F' H' σ' (hZ.lk lk') S').mono fun y H4 ⟨z, r2, G2, F2, e2, S2, k2, k, hz, m1⟩ => ?_
    subst hz
    cases rep_kD (K := X.K) k2
    intro W hW
    have q2 := m1 W hW
    unfold WE at q2
    rw [hW.k] at q2
    exact (q2 F0 _ F2 H4 σ' (hW.lk lk') S2).mono fun u H5 ⟨z', r3, G3, F3, e3, S3, k3, d', r4, n1, n2, n3⟩ => fin F3 G3 H5 r3 r4 σ' z' u k d' hw' S3 k3 n1 n2 n3
  | [c], q =>
    intro Z hZ
    have q' := q Z hZ
    unfold WT at q'
    rw [hZ.k] at q'
    refine (q' F0 _ F' H' σ' (hZ.lk lk') S').mono fun b H3 ⟨r2, G2, F2, e2, S2, m1, m2⟩ => ?_
    cases b with
    | true =>
      rw [if_pos rfl]
      intro W hW
      have q2 := m1 rfl W hW
      unfold WE at q2
      rw [hW.k] at q2
      refine (q2 F0 _ F2 H3 σ' (hW.lk lk') S2).mono fun y H4 ⟨z, r3, G3, F3, e3, S3, k3, k, hz, n1⟩ => ?_
      subst hz
      cases rep_kD (K := X.K) k3
      intro V hV
      have q3 := n1 V hV
      unfold WE at q3
      rw [hV.k] at q3
      exact (q3 F0 _ F3 H4 σ' (hV.lk lk') S3).mono fun u H5 ⟨z', r4, G4, F4, e4, S4, k4, d', r5, p1, p2, p3⟩ => fin F4 G4 H5 r4 r5 σ' z' u k d' hw' S4 k4 p1 p2 p3
    | false =>
      rw [if_neg Bool.false_ne_true]
      exact hN acc us _ G2 F2 H3 (m2 rfl) (DRep.mono S2.bas.ff ha) (S2.wipe is hw')
  | _ :: _ :: _, q => exact q.elim
/-- what a comprehension's loop keeps -/
def DcInv (K : PySem.W.Frag) (T Fa : Hp) (τ : L2.St) (L : Addr) (I : List (Key × D) → Env2 → GD → Prop) : Hp → Prop := fun H' =>
  ∃ acc us r' G' F', DRep K F' acc us ∧ Sta K Fa (upd T L (.dK us)) F' G' H' r' τ ∧ I acc r' G'
theorem dc_begin {K : PySem.W.Frag} {F0 T F H : Hp} {σ : L2.St} {is : List Nat} {L : Addr} {I : List (Key × D) → Env2 → GD → Prop} (S : Sta K F0 T F G H r σ) (hL : H L = none) (h0 : I [] (wipeD r is) G) : DcInv K T F (L2.wipe σ is) L I (upd H L (.dK [])) := by
  obtain ⟨f1, f2, f3⟩ := S.bas.freshF hL
  have Sb := (S.newH (o := .dK []) hL).base.wipe (σ := σ) is rfl
  refine ⟨[], [], _, G, F, rfl, ⟨⟨Sb.bas.ff, fun q u hq => .inl hq, Sb.bas.fh, Sb.bas.gh, Sb.bas.fg, fun q u hq => ?_, fun q u hq => ?_⟩, Sb.len, fun i s hs => ?_, Sb.ap⟩, h0⟩
  · have hq' : q ≠ L := fun z => by subst z; rw [f2] at hq; cases hq
    rw [upd_ne hq']; exact Sb.bas.gt q u hq
  · by_cases hq' : q = L
    · subst hq'; rw [upd_same] at hq ⊢; exact hq
    · rw [upd_ne hq'] at hq; exact Sb.bas.tk q u hq
  · have hh := Sb.sl i s hs
    cases s with
    | no => trivial
    | sh d => exact hh
    | own d =>
      obtain ⟨p, k1, k2, k3, k4, k5⟩ := hh
      have hp : p ≠ L := fun z => by
        subst z
        by_cases hi : i ∈ is
        · have : (L2.wipe σ is)[i]? ≠ some (some (V.ref p)) := fun z => (wipe_some z).2 hi
          exact this k1
        · have e := (wipe_some k1).1
          have hr : r[i]? = some (.own d) := by
            have aux : ∀ (js : List Nat), i ∉ js → (wipeD r js)[i]? = r[i]? := by
              intro js
              induction js with
              | nil => intro _; rfl
              | cons j js ih =>
                intro hj
                unfold wipeD
                rw [List.getElem?_set_ne (fun z => hj (by rw [z]; exact List.mem_cons_self)), ih (fun z => hj (List.mem_cons_of_mem _ z))]
            rw [aux is hi] at hs
            exact hs
          exact S.freshR hL i d hr e
      exact ⟨p, k1, k2, k3, k4, by rw [upd_ne hp]; exact k5⟩
theorem dc_end {K : PySem.W.Frag} {F0 T Fa : Hp} {Ga : GD} {Ha H' : Hp} {σ : L2.St} {is : List Nat} {L : Addr} {I : List (Key × D) → Env2 → GD → Prop} {Q : Res → Env2 → GD → Prop} (B : Bas K F0 T Fa Ga Ha) (hL : Ha L = none) (hσ : Wk r (wipeD r is)) (S0 : Sta K F0 T Fa Ga Ha r σ) (h : DcInv K T Fa (L2.wipe σ is) L I H') (he : ∀ acc r' G', I acc r' G' → Q (.fr (dicD acc)) r' G') :
    PostE K F0 T Fa σ Q (.ref L) H' := by
  obtain ⟨acc, us, r', G', F', ha, S, q⟩ := h
  obtain ⟨f1, f2, f3⟩ := B.freshF hL
  have fL : F' L = none := by
    cases e : F' L with
    | none => rfl
    | some u =>
      rcases S.bas.ft L u e with zz | zz
      · rw [f1] at zz; cases zz
      · rw [upd_same] at zz; cases zz
  have gL : G' L = none := by
    cases e : G' L with
    | none => rfl
    | some u => have zz := S.bas.gt L u e; rw [upd_same] at zz; cases zz
  have tsub : ∀ q u, T q = some u → upd T L (.dK us) q = some u := fun q u hq => by
    have hqL : q ≠ L := fun zz => by subst zz; rw [f3] at hq; cases hq
    rw [upd_ne hqL]; exact hq
  have tdown : ∀ q, upd T L (.dK us) q = none → T q = none := fun q hq => by
    cases hf : T q with
    | none => rfl
    | some u => rw [tsub q u hf] at hq; cases hq
  have slots : ∀ (i : Nat) (s : Sl), r'[i]? = some s → SlotOk K T F' G' H' s σ[i]? := fun i s hs => by
    have hh := S.sl i s hs
    cases s with
    | no => trivial
    | sh d => obtain ⟨v, k1, k2⟩ := hh; exact ⟨v, (wipe_some k1).1, k2⟩
    | own d => obtain ⟨p, k1, k2, k3, k4, k5⟩ := hh; exact ⟨p, (wipe_some k1).1, k2, k3, k4, tdown p k5⟩
  have St : Sta K F0 T F' G' H' r' σ := by
    refine ⟨⟨B.ff.trans S.bas.ff, fun q u hq => ?_, S.bas.fh, S.bas.gh, S.bas.fg, fun q u hq => tdown q (S.bas.gt q u hq), fun q u hq => S.bas.tk q u (tsub q u hq)⟩, by rw [S.len, wipe_length], slots, fun i j d e hij hi hj z => ?_⟩
    · rcases S.bas.ft q u hq with zz | zz
      · exact B.ft q u zz
      · exact .inr (tdown q zz)
    · obtain ⟨p, k1, _⟩ := S.ownS hi
      obtain ⟨p2, m1, _⟩ := S.ownS hj
      refine S.ap i j d e hij hi hj ?_
      rw [(wipe_some k1).1, (wipe_some m1).1] at z
      rw [k1, m1, z]
  refine ⟨.fr (dicD acc), r', G', F', S.bas.ff, St, ⟨L, rfl, own_dicD ha (S.bas.tk L _ upd_same), fL, gL, f3, fun i d hi z => ?_⟩, he acc r' G' q⟩
  obtain ⟨p, k1, _, _, _, k5⟩ := S.ownS hi
  have e1 := (wipe_some k1).1
  rw [e1] at z; cases z
  rw [upd_same] at k5; cases k5
/-- one step of a comprehension over items -/
theorem dc_step {scope : Scope} {ifs : List Expr} {is : List Nat} {d : D} {J : It} {ds : List D} {i : Nat} {T Fa : Hp} {H H' : Hp} {σ : L2.St} {v : V} {L : Addr} {I I' : List (Key × D) → Env2 → GD → Prop} (lk : Lk X Fa T) (hL : Fa L = none) (hT : T L = none) (hJ : ItD X.K J Fa ds) (hi : ds[i]? = some d) (h : DcInv X.K T Fa (L2.wipe σ is) L I H) (y : J.yld i H v H')
    (hs : ∀ acc r' G', I acc r' G' → DcTurn X scope tg kx vx ifs is d acc r' G' I') :
    blkG X scope tg v (L2.wipe σ is) H' fun σ2 H2 => L2.wipe σ2 is = L2.wipe σ is ∧ blkT X scope ifs σ2 H2 fun b H3 =>
      if b = true then blkE X scope kx σ2 H3 fun y H4 => blkE X scope vx σ2 H4 fun z H5 => ∃ kvs k, y = kV k ∧ H5 L = some (.dK kvs) ∧ kvs.length < sizeLine ∧ DcInv X.K T Fa (L2.wipe σ is) L I' (upd H5 L (.dK (putK kvs k z))) else DcInv X.K T Fa (L2.wipe σ is) L I' H3 := by
  obtain ⟨acc, us, r', G', F1, ha1, S1, q⟩ := h
  obtain ⟨F', ef, S, rp⟩ := hJ.item S1.bas.ff S1 hi y
  have ha := DRep.mono ef ha1
  have fL : F' L = none := by
    cases e : F' L with
    | none => rfl
    | some u =>
      rcases S.bas.ft L u e with zz | zz
      · rw [hL] at zz; cases zz
      · rw [upd_same] at zz; cases zz
  have lk' : Lk X F' T := ⟨lk.t, lk.f.trans S.bas.ff, fun a o ho => (S.bas.ft a o ho).elim (fun z => lk.ft a o z) fun z => .inr (none_of lk.t (none_of (Ex.new hT) z))⟩
  refine dc_turn lk' S.base hT fL ha rp (hs acc r' G' q) fun acc' us' r2 G2 F2 H2 q2 ha2 S2 => ?_
  refine ⟨acc', us', r2, G2, F2, ha2, ⟨⟨S.bas.ff.trans S2.bas.ff, fun q u hq => ?_, S2.bas.fh, S2.bas.gh, S2.bas.fg, S2.bas.gt, S2.bas.tk⟩, S2.len, S2.sl, S2.ap⟩, q2⟩
  rcases S2.bas.ft q u hq with zz | zz
  · rcases S.bas.ft q u zz with yy | yy
    · exact .inl yy
    · by_cases hqL : q = L
      · subst hqL; rw [fL] at zz; cases zz
      · rw [upd_ne hqL] at yy ⊢; exact .inr yy
  · exact .inr zz
theorem we_dc {scope : Scope} {ifs : List Expr} (own : List (Str × Nat)) {Q : Res → Env2 → GD → Prop} (hc : X.calm = true) (hN : X.N.Nodup) (ok : BlkOk X.N X.env.scope scope own)
    (h : WI X tg e r G fun ds r2 G1 => ∃ I : Nat → List (Key × D) → Env2 → GD → Prop, I 0 [] (wipeD r2 (own.map (·.2))) G1 ∧ (∀ (k : Nat) (d : D) (acc : List (Key × D)) (r3 : Env2) (G3 : GD), ds[k]? = some d → I k acc r3 G3 → DcTurn X scope tg kx vx ifs (own.map (·.2)) d acc r3 G3 (I (k + 1))) ∧
      ∀ acc r3 G3, I ds.length acc r3 G3 → Q (.fr (dicD acc)) r3 G3) (hs : ∀ x, foldedSetIterable e X.env x = pure x := by intro _; rfl) : WE X (.DictComp kx vx [⟨tg, e, ifs, 0⟩] scope pos) r G Q := fun F0 T F H σ lk S =>
  Run.of (pe_dc hc hN piR ok blkG_ok blkT_ok blkE_ok blkE_ok hs) (by
    refine (h F0 T F H σ lk S).mono fun J H1 ⟨ds, r2, G1, Fa, e1, Sa, hJ, I, i0, it, ie⟩ L hL => ?_
    obtain ⟨f1, f2, f3⟩ := Sa.bas.freshF hL
    refine ⟨fun i m H' => m = ds.length - i ∧ i ≤ ds.length ∧ DcInv X.K T Fa (L2.wipe σ (own.map (·.2))) L (I i) H', ⟨ds.length, by simp, Nat.zero_le _, dc_begin Sa hL i0⟩, ?_⟩
    rintro i m H' ⟨rfl, hi, hI⟩
    obtain ⟨_, _, _, _, F', _, S', _⟩ := id hI
    obtain ⟨j1, j2⟩ := hJ F' H' S'.bas.ff S'.bas.fh
    by_cases hlt : i < ds.length
    · obtain ⟨j3, _⟩ := j2 i ds[i] (List.getElem?_eq_getElem hlt)
      refine .inr ⟨j3, fun H2 => DcInv X.K T Fa (L2.wipe σ (own.map (·.2))) L (I (i + 1)) H2, fun H2 p2 => ⟨ds.length - (i + 1), by omega, rfl, hlt, p2⟩, fun x H2 y => ?_⟩
      exact dc_step (lk.base Sa.bas) f1 f3 hJ (List.getElem?_eq_getElem hlt) hI y fun acc r' G' q => it i ds[i] acc r' G' (List.getElem?_eq_getElem hlt) q
    · have e : i = ds.length := by omega
      subst e
      exact .inl ⟨j1, (dc_end Sa.bas hL (wk_wipe _ _) Sa hI fun acc r' G' q => ie acc r' G' q).ext e1⟩)
end
section
variable {X : Cy} {e a b c o tg kx vx : Expr} {es : List Expr} {st : Stmt} {sts rest body orelse : List Stmt} {r : Env2} {G : GD} {pos tpos p0 p1 p2 : Pos} {D0 : EndsD}
theorem call_sortedDA (hcalm : X.calm = true) : CallR X (.builtin "sorted") (fun xs H Q => ∃ (a : Addr) (kvs : List (Key × V)) (ks : List Int), xs = [.ref a] ∧ Rd H a (.dK kvs) ∧ kvs.map (·.1) = ks.map Sum.inl ∧
    ∀ (ys : List Int) (p : Addr), ys.Perm ks → ys.Pairwise (· ≤ ·) → H p = none → Q (.ref p) (upd H p (.lst (ys.map V.int)))) := by
  intro pins s σ H xs us Q I r q
  obtain ⟨a, kvs, ks, ex, hd, hks, q⟩ := q
  subst ex
  obtain ⟨u, eu, rx⟩ := vals1 r
  subst eu
  cases rx
  obtain ⟨z, lo, vs, rel, dd⟩ := dk_rd I.hok hd
  obtain ⟨ep, hat⟩ := dd.dictAt
  have hkeys : vs.map (·.1) = ks.map Sum.inl := rel.keys.symm.trans hks
  have hl : vs.length = ks.length := by
    have e := congrArg List.length hkeys
    rw [List.length_map, List.length_map] at e
    exact e
  have h16 : vs.length ≤ sizeLine := by rw [← rel.length]; exact z
  refine Calls.call_function_entry PyProof.Rows.kind_sorted PyProof.Rows.plain_sorted PyProof.Rows.entry_sorted (PyProof.Rows.args_sorted1 _) ?_
  unfold Builtin.«sorted»
  refine wpAny_bind (m := checkCount "sorted" 1 1 _) (wpAny_pure ?_)
  refine wpAny_bind (PySem.W.kdu_collect (A := X.A.in1) (PySem.W.kdl_dict (knd := mixKind X.prog X.w) (kvs := vs) (ep := ep) lo) (I.ok.hd hcalm) hat h16 fun h' tk acc hk hacc => ?_)
  have hal : acc.toList.length = ks.length := by rw [Array.length_toList, hacc.1, hl]
  have hS : IntsAre acc.toList ks := ints_each hal fun j v e => by
    obtain ⟨k, x, e1, e2⟩ := hacc.2 j v (by rw [← Array.getElem?_toList]; exact e)
    have e3 : (vs.map (·.1))[j]? = some k := by rw [List.getElem?_map, e1]; rfl
    rw [hkeys, List.getElem?_map] at e3
    cases e4 : ks[j]? with
    | none => rw [e4] at e3; cases e3
    | some y =>
      rw [e4] at e3
      have e5 : Sum.inl y = k := Option.some.inj e3
      subst e5
      rcases keyIs_shape (show keyIs (Sum.inl y) v = true from e2) with ⟨i, t, ek, ev⟩ | ⟨z, t, ek, ev⟩
      · cases ek
        exact ⟨y, t, rfl, ev⟩
      · cases ek
  have I1 : Inv X pins σ H { s with heap := h', toks := tk } := I.kept hk
  refine wpAny_bind (wpAny_newList ?_ (by rw [hal, ← hl]; exact h16))
  have hoL : (h'.push (seqObj "list" acc.toList.toArray 0)).get? h'.objs.size = some (seqObj "list" acc.toList.toArray 0) := Heap.get?_push_size _ rfl
  show wpAny _ _ _ _ _ { s with heap := h'.push (seqObj "list" acc.toList.toArray 0), toks := tk }
  refine wpAny_bind (wpAny_holding (wpAny_call_entry PyProof.Rows.slot_list_sort ⟨_, hoL, rfl⟩ PyProof.Rows.entry_list_sort
    (SrtO.list_sort_ord (s := { s with heap := h'.push (seqObj "list" acc.toList.toArray 0), toks := tk }) SrtO.swo_int hoL (by rw [hal, ← hl]; exact h16) (fun h2 => SrtO.ints_sortable hS h2) fun out g1 g2 => ⟨_, rfl, ?_⟩) (PyProof.Rows.args_list_sort _)))
  obtain ⟨k1, k2, k3⟩ := SrtO.ints_out hS g1 g2
  obtain ⟨e', he'⟩ := PyProof.Rows.sortedHeap_at (vs := acc.toList) (out := out.toArray) hoL
  have hlen : ((out.map SrtO.iv).map V.int).length ≤ sizeLine := by
    rw [List.length_map, k2.length_eq, ← hl]
    exact h16
  refine wpAny_pure ⟨_, rfl, .ref h'.objs.size, upd H h'.objs.size (.lst ((out.map SrtO.iv).map V.int)), I1.laid (t' := tk) (fun b u e => ?_) (Nat.le_refl _)
    (show ObjOk X.prog X.w _ _ _ (.lst ((out.map SrtO.iv).map V.int)) from ⟨hlen, out, e', vals_of_ints k1, he'⟩), rfl, q _ _ k2 k3 (I1.hok.fresh (Nat.le_refl _))⟩
  have hb : b < h'.objs.size := Heap.lt_size e
  rw [PyProof.Rows.sortedHeap_old (Nat.ne_of_lt hb) (by rw [size_push']; exact Nat.lt_succ_of_lt hb)]
  exact Heap.get?_push_of_some _ e
theorem c_sortedD {Q : Res → Prop} {ks : List Int} {ds : List D} (hcalm : X.calm = true) (q : Q (.fr (.lst ((isort ks).map D.int)))) : CallW1 X (.builtin "sorted") (.dic (ks.map Sum.inl) ds) Q := fun F0 T F G H r σ v S h => by
  obtain ⟨p, vs, rfl, k1, k2, k3⟩ := h.dic S.bas.fh
  refine ⟨_, call_sortedDA hcalm, p, _, ks, rfl, k1, ?_, fun ys l h1 h2 hl => ?_⟩
  · rw [List.map_fst_zip (by rw [k3.length]; omega)]
  · rw [isort_of h1 h2]
    exact new_lst S (RepL.of_ints _) hl q
theorem pairs_rep {K : PySem.W.Frag} {F : Hp} : ∀ {kvs : List (Key × D)} {vs : List V}, RepL K F (kvs.map fun kv => .tup [kD kv.1, kv.2]) vs → ∃ (ps : List Addr) (us : List (Key × V)), vs = ps.map V.ref ∧ Paired (fun p kv => SqT K F p [kV kv.1, kv.2]) ps us ∧ DRep K F kvs us
  | [], _, h => ⟨[], [], h, .nil, rfl⟩
  | kv :: kvs, _, ⟨v, vs', h1, ⟨p, ws, h2, h3, w1, ws1, h4, h5, w2, ws2, h6, h7, h8⟩, h9⟩ => by
    obtain ⟨ps, us, z1, z2, z3⟩ := pairs_rep h9
    subst h1 h2 z1
    cases rep_kD h5
    cases (show ws2 = [] from h8)
    subst h6 h4
    exact ⟨p :: ps, (kv.1, w2) :: us, rfl, .cons h3 z2, ⟨(kv.1, w2), us, rfl, rfl, h7, z3⟩⟩
theorem DRep.fold {K : PySem.W.Frag} {F : Hp} : ∀ {kvs acc : List (Key × D)} {us ws : List (Key × V)}, DRep K F acc ws → DRep K F kvs us → DRep K F (kvs.foldl (fun acc kv => putD acc kv.1 kv.2) acc) (mergeK ws us)
  | [], _, _, _, h, h' => by rw [show _ = [] from h']; exact h
  | kv :: kvs, acc, _, ws, h, ⟨u, us', h1, h2, h3, h4⟩ => by
    subst h1
    have : DRep K F (putD acc kv.1 kv.2) (putK ws u.1 u.2) := by rw [h2]; exact h.put h3
    have z := DRep.fold this h4
    exact z
theorem paired_mono {α β : Type} {R R' : α → β → Prop} (k : ∀ a b, R a b → R' a b) : ∀ {xs : List α} {ys : List β}, Paired R xs ys → Paired R' xs ys
  | _, _, .nil => .nil
  | _, _, .cons h t => .cons (k _ _ h) (paired_mono k t)
theorem c_dictP {Q : Res → Prop} {kvs : List (Key × D)} (hcalm : X.calm = true) (q : Q (.fr (dicD (kvs.foldl (fun acc kv => putD acc kv.1 kv.2) [])))) : CallW1 X (.type "dict") (.lst (kvs.map fun kv => .tup [kD kv.1, kv.2])) Q := fun F0 T F G H r σ v S h => by
  obtain ⟨p, vs, rfl, k1, k2⟩ := h.lst S.bas.fh
  obtain ⟨ps, us, rfl, z2, z3⟩ := pairs_rep k2
  refine ⟨_, call_dictP hcalm, p, ps, us, rfl, .inl k1, paired_mono (fun a b h => S.bas.fh.sqT h) z2, fun l hl => ?_⟩
  obtain ⟨f1, f2, f3⟩ := S.bas.freshF hl
  exact ⟨.fr (dicD _), F, Ex.refl _, S.newH hl, ⟨l, rfl, own_dicD (DRep.fold (acc := []) (ws := []) rfl z3) upd_same, f1, f2, f3, S.freshR hl⟩, q⟩
end
section
variable {X : Cy} {e a b c o tg kx vx : Expr} {es : List Expr} {st : Stmt} {sts rest body orelse : List Stmt} {r : Env2} {G : GD} {pos tpos apos p0 p1 p2 : Pos} {D0 : EndsD}
theorem passF {X : Cx} : Passes (L2.CX X.prog X.w) X (fun _ _ _ => False) := fun _ _ _ _ _ _ _ h => by
  obtain ⟨_, _, _, _, _, _, _, _, _, _, _, _, z⟩ := h
  exact z.elim
theorem Vw.rep_ins {K : PySem.W.Frag} {F H : Hp} {C : Addr} {ds : List D} {v : V} (h : Vw K F H (.ins C ds) v) : Rep K F (.ins C ds) v := by
  rcases h with z | ⟨_, _, z⟩
  · exact z
  · exact z.elim
end
section
variable {X : Cy} {e a b c o tg kx vx : Expr} {es : List Expr} {st : Stmt} {sts rest body orelse : List Stmt} {r : Env2} {G : GD} {pos tpos apos cpos p0 p1 p2 : Pos} {D0 : EndsD}
theorem rgI_V (a b : Int) : (rgI a b).map V.int = rgV a b := by unfold rgI rgV; rw [List.map_map]; rfl
theorem we_listR2 {Q : Res → Env2 → GD → Prop} (hc : X.calm = true) (hg : Gl X "list") (hm : X.mg "list" = none) (hg2 : Gl X "range") (hm2 : X.mg "range" = none)
    (h : WE X a r G fun x r1 G1 => WE X b r1 G1 fun y r2 G2 => ∃ lo n, vw r2 x = some (.int lo) ∧ vw r2 y = some (.int n) ∧ RgOk lo n ∧ Q (.fr (.lst ((rgI lo n).map D.int))) r2 G2) (na : starEach [a, b] X.env = (false, eval a X.env) :: starEach [b] X.env := by rfl) (nb : starEach [b] X.env = (false, eval b X.env) :: starEach [] X.env := by rfl) (hpl : (backTo p2 (starEach [b] X.env)).any (·.1) = false := by rfl)
    (na2 : starEach [.Call (.Name "range" p1) [a, b] [] p2] X.env = (false, eval (.Call (.Name "range" p1) [a, b] [] p2) X.env) :: starEach [] X.env := by rfl) : WE X (.Call (.Name "list" p0) [.Call (.Name "range" p1) [a, b] [] p2] [] pos) r G Q := fun F0 T F H σ lk S =>
  Run.of (pe_listRg hc hg hm (prg_2 hg2 hm2 peR peR na nb hpl) na2) ((h F0 T F H σ lk S).mono fun v H1 ⟨x, r1, G1, F1, e1, S1, k1, h1⟩ => by
    obtain ⟨F1', e1', S1', hv⟩ := hold S1 k1
    refine (h1 F0 T F1' H1 σ lk S1').mono fun v2 H2 ⟨y, r2, G2, F2, e2, S2, k2, lo, n, q1, q2, ok, q⟩ => ?_
    refine ⟨lo, n, (hv F2 G2 H2 r2 _ e2 S2 (.inl q1)).int, (S2.view k2 q2).int, ok, fun l hl => ?_⟩
    rw [← rgI_V]
    obtain ⟨x', F', f1, f2, f3, f4⟩ := new_lst S2 (RepL.of_ints (rgI lo n)) hl (Q := fun z => Q z r2 G2) q
    exact ⟨x', r2, G2, F', ((e1.trans e1').trans e2).trans f1, f2, f3, f4⟩)
end
theorem lt_ {i n : Nat} (h : Nat.ble (i + 1) n = true) : i < n := Nat.le_of_ble_eq_true h
theorem ixN0 {α : Type} (x : α) (xs : List α) : ixN (x :: xs).length 0 = some 0 := by
  unfold ixN
  rw [if_pos (by omega), if_pos (by rw [List.length_cons]; omega)]
  rfl
/-- what builtin names stand free -/
structure Bn (mg : Str → Option Value) : Prop where
  int : mg "int" = none
  len : mg "len" = none
  list : mg "list" = none
  range : mg "range" = none
  sorted : mg "sorted" = none
  tuple : mg "tuple" = none
  dict : mg "dict" = none
  isinstance : mg "isinstance" = none
  bool : mg "bool" = none
  str : mg "str" = none
  enumerate : mg "enumerate" = none
  reversed : mg "reversed" = none
  abs : mg "abs" = none
  min : mg "min" = none
  max : mg "max" = none
  sum : mg "sum" = none
  zip : mg "zip" = none
  set : mg "set" = none
  all : mg "all" = none
  divmod : mg "divmod" = none
theorem map_erase {α β : Type} (f : α → β) : ∀ (xs : List α) (j : Nat), (xs.eraseIdx j).map f = (xs.map f).eraseIdx j
  | [], _ => by simp
  | x :: xs, 0 => rfl
  | x :: xs, j + 1 => by rw [List.eraseIdx_cons_succ, List.map_cons, List.map_cons, List.eraseIdx_cons_succ, map_erase f xs j]
section
variable {X : Cy} {r : Env2} {G : GD} {pos px py pz : Pos}
theorem wg_pair (i j : Nat) {x y : Str} {kt : Nat} {d1 d2 : D} {is : List Nat} {Q : Env2 → GD → Prop} (hc : X.calm = true) (nd : X.N.Nodup) (hi : X.N[i]? = some x) (hj : X.N[j]? = some y) (hx : L2.Loc X.env.scope x) (hy : L2.Loc X.env.scope y) (mi : i ∈ is) (mj : j ∈ is) (li : i < r.length) (lj : j < r.length)
    (q : Q ((r.set i (.sh d1)).set j (.sh d2)) G) (hfx : X.fn x = true ∨ X.env.scope.names.lookup x = some .local := by first | exact .inl rfl | exact .inr rfl | assumption) (hfy : X.fn y = true ∨ X.env.scope.names.lookup y = some .local := by first | exact .inl rfl | exact .inr rfl | assumption)
    (hn : (assignEach [.Name x px, .Name y py] X.env).length = 2 := by rfl) (hf : (assignEach [.Name x px, .Name y py] X.env).findIdx? (·.1) = none := by rfl) : WG X (.Tuple [.Name x px, .Name y py] kt pos) (.tup [d1, d2]) r G is Q :=
  wg_tup [i, j] hc (.cons (pg_name nd hi hx hfx) (.cons (pg_name nd hj hy hfy) .nil)) (fun t ht us => by
    rcases List.mem_cons.mp ht with rfl | ht
    · rfl
    · cases List.mem_singleton.mp ht; rfl) (fun k hk => by
    rcases List.mem_cons.mp hk with rfl | hk
    · exact mi
    · cases List.mem_singleton.mp hk; exact mj) rfl (fun k hk => by
    rcases List.mem_cons.mp hk with rfl | hk
    · exact li
    · cases List.mem_singleton.mp hk; exact lj) q hn hf
end
section
variable {X : Cy} {e a b c o tg kx vx : Expr} {es : List Expr} {st : Stmt} {sts rest body orelse : List Stmt} {r : Env2} {G : GD} {pos tpos apos cpos p0 p1 p2 : Pos} {D0 : EndsD}
theorem call_lenR : CallR X (.builtin "len") (fun xs H Q => ∃ a kvs, xs = [V.ref a] ∧ Rd H a (.dK kvs) ∧ Q (.int (kvs.length : Nat)) H) := fun pins s σ H xs us Q I rv ⟨a, kvs, ex, hd, q⟩ => by
  subst ex
  obtain ⟨u, rfl, ru⟩ := rv.one
  cases (show u = Value.ref a from ru)
  exact d_len I hd fun t s' I' => ⟨.int (kvs.length : Nat), H, I', ⟨t, rfl⟩, q⟩
theorem c_lenD {Q : Res → Prop} {acc : List (Key × D)} (q : Q (.sh (.int (acc.length : Nat)))) : CallW1 X (.builtin "len") (dicD acc) Q := fun F0 T F G H r σ v S h => by
  obtain ⟨p, vs, rfl, k1, k2, k3⟩ := h.dic S.bas.fh
  have e : ((acc.map (·.1)).zip vs).length = acc.length := by
    rw [List.length_zip, List.length_map, k3.length, List.length_map, Nat.min_self]
  refine ⟨_, call_lenR, p, _, rfl, k1, .sh (.int (acc.length : Nat)), F, Ex.refl _, S, ?_, q⟩
  show V.int _ = V.int _
  rw [e]
/-- a, b = e, e a pair -/
theorem ws_unp2 (i j : Nat) {x y : Str} {px py tpos : Pos} {k : Nat} (hc : X.calm = true) (nd : X.N.Nodup) (hi : X.N[i]? = some x) (hj : X.N[j]? = some y) (hx : L2.Loc X.env.scope x) (hy : L2.Loc X.env.scope y)
    (h : WE X e r G fun z r1 G1 => ∃ d1 d2 r2, fz r1 z = some (.tup [d1, d2], r2) ∧ i < r2.length ∧ j < r2.length ∧ D0.nx ((r2.set i (.sh d1)).set j (.sh d2)) G1)
    (hfx : X.fn x = true ∨ X.env.scope.names.lookup x = some .local := by first | exact .inl rfl | exact .inr rfl | assumption) (hfy : X.fn y = true ∨ X.env.scope.names.lookup y = some .local := by first | exact .inl rfl | exact .inr rfl | assumption)
    (hn : (assignEach [.Name x px, .Name y py] X.env).length = 2 := by rfl) (hf : (assignEach [.Name x px, .Name y py] X.env).findIdx? (·.1) = none := by rfl)
    (hs : swapsWithSole [.Tuple [.Name x px, .Name y py] k tpos] e pos.line X.env = pure false := by rfl) (hw : swappedStores [.Tuple [.Name x px, .Name y py] k tpos] e X.env = pure none := by rfl)
    (h1 : (assignEach [.Tuple [.Name x px, .Name y py] k tpos] X.env).map (·.2) = [assign (.Tuple [.Name x px, .Name y py] k tpos) X.env] := by rfl) : WS X (.Assign [.Tuple [.Name x px, .Name y py] k tpos] e pos) r G D0 :=
  ws_unpack [i, j] hc (.cons (pg_name nd hi hx hfx) (.cons (pg_name nd hj hy hfy) .nil)) (fun t ht us => by
    rcases List.mem_cons.mp ht with rfl | ht
    · rfl
    · cases List.mem_singleton.mp ht; rfl) (h.mono fun z r1 G1 ⟨d1, d2, r2, q1, q2, q3, q4⟩ => ⟨[d1, d2], r2, q1, rfl, fun k hk => by
      rcases List.mem_cons.mp hk with rfl | hk
      · exact q2
      · cases List.mem_singleton.mp hk; exact q3, q4⟩) hn hf hs hw h1
end
theorem ne_of_G {G : GD} {a b : Addr} {d : D} (h : G a = some d) (h' : G b = none) : a ≠ b := fun z => by subst z; rw [h] at h'; cases h'
theorem Sta.tbegin {K : PySem.W.Frag} {F0 T F : Hp} {G : GD} {H : Hp} {r : Env2} {σ : L2.St} (S : Sta K F0 T F G H r σ) {L : Addr} (hL : H L = none) (o : HO) (h0 : F0 L = none) : Sta K F0 (upd T L o) F G (upd H L o) r σ := by
  obtain ⟨f1, f2, f3⟩ := S.bas.freshF hL
  have Sb := S.newH (o := o) hL
  refine ⟨⟨Sb.bas.ff, fun q u hq => ?_, Sb.bas.fh, Sb.bas.gh, Sb.bas.fg, fun q u hq => ?_, fun q u hq => ?_⟩, Sb.len, fun i s hs => ?_, Sb.ap⟩
  · rw [upd_ne (ne_of_none hq f1)]; exact Sb.bas.ft q u hq
  · rw [upd_ne (ne_of_G hq f2)]; exact Sb.bas.gt q u hq
  · by_cases hq' : q = L
    · subst hq'; rw [upd_same] at hq ⊢; exact hq
    · rw [upd_ne hq'] at hq; exact Sb.bas.tk q u hq
  · have hh := Sb.sl i s hs
    cases s with
    | no => trivial
    | sh d => exact hh
    | own d =>
      obtain ⟨p, k1, k2, k3, k4, k5⟩ := hh
      have hp : p ≠ L := fun z => by subst z; exact S.freshR hL i d hs k1
      exact ⟨p, k1, k2, k3, k4, by rw [upd_ne hp]; exact k5⟩
theorem Sta.tF {K : PySem.W.Frag} {F0 T F : Hp} {G : GD} {H : Hp} {r : Env2} {σ : L2.St} {L : Addr} {o : HO} (S : Sta K F0 (upd T L o) F G H r σ) (h0 : F0 L = none) : F L = none ∧ G L = none ∧ H L = some o := by
  refine ⟨?_, ?_, S.bas.tk L o upd_same⟩
  · cases e : F L with
    | none => rfl
    | some u =>
      rcases S.bas.ft L u e with z | z
      · rw [h0] at z; cases z
      · rw [upd_same] at z; cases z
  · cases e : G L with
    | none => rfl
    | some u => have z := S.bas.gt L u e; rw [upd_same] at z; cases z
theorem Sta.tput {K : PySem.W.Frag} {F0 T F : Hp} {G : GD} {H : Hp} {r : Env2} {σ : L2.St} {L : Addr} {o : HO} (S : Sta K F0 (upd T L o) F G H r σ) (h0 : F0 L = none) (o' : HO) : Sta K F0 (upd T L o') F G (upd H L o') r σ := by
  obtain ⟨fL, gL, _⟩ := S.tF h0
  refine ⟨⟨S.bas.ff, fun q u hq => ?_, fun q u hq => ?_, fun q u hq => ?_, S.bas.fg, fun q u hq => ?_, fun q u hq => ?_⟩, S.len, fun i s hs => ?_, S.ap⟩
  · have n := ne_of_none hq fL
    have := S.bas.ft q u hq
    rw [upd_ne n] at this ⊢
    exact this
  · rw [upd_ne (ne_of_none hq fL)]; exact S.bas.fh q u hq
  · exact (S.bas.gh q u hq).mono (Ex.refl _) fun o ho => by rw [upd_ne (ne_of_G hq gL)]; exact ho
  · have n := ne_of_G hq gL
    have := S.bas.gt q u hq
    rw [upd_ne n] at this ⊢
    exact this
  · by_cases hqL : q = L
    · subst hqL; rw [upd_same] at hq ⊢; exact hq
    · rw [upd_ne hqL] at hq ⊢
      exact S.bas.tk q u (by rw [upd_ne hqL]; exact hq)
  · have hh := S.sl i s hs
    cases s with
    | no => trivial
    | sh d => exact hh
    | own d =>
      obtain ⟨p, k1, k3, k4, k5, k6⟩ := hh
      have hpL : p ≠ L := fun zz => by subst zz; rw [upd_same] at k6; cases k6
      rw [upd_ne hpL] at k6
      exact ⟨p, k1, k3.mono (Ex.refl _) (fun u hu => by rw [upd_ne hpL]; exact hu), k4, k5, by rw [upd_ne hpL]; exact k6⟩
theorem Sta.tend {K : PySem.W.Frag} {F0 T F : Hp} {G : GD} {H : Hp} {r : Env2} {σ : L2.St} {L : Addr} {o : HO} (S : Sta K F0 (upd T L o) F G H r σ) (h0 : F0 L = none) (hT : T L = none) : Sta K F0 T F G H r σ ∧ ∀ (i : Nat) (e : D), r[i]? = some (.own e) → σ[i]? ≠ some (some (.ref L)) := by
  have tsub : ∀ q u, T q = some u → upd T L o q = some u := fun q u hq => by rw [upd_ne (ne_of_none hq hT)]; exact hq
  have tdown : ∀ q, upd T L o q = none → T q = none := fun q hq => by
    cases hf : T q with
    | none => rfl
    | some u => rw [tsub q u hf] at hq; cases hq
  refine ⟨⟨⟨S.bas.ff, fun q u hq => ?_, S.bas.fh, S.bas.gh, S.bas.fg, fun q u hq => tdown q (S.bas.gt q u hq), fun q u hq => S.bas.tk q u (tsub q u hq)⟩, S.len, fun i s hs => ?_, S.ap⟩, fun i e he z => ?_⟩
  · exact (S.bas.ft q u hq).imp id (tdown q)
  · have hh := S.sl i s hs
    cases s with
    | no => trivial
    | sh d => exact hh
    | own d => obtain ⟨p, k1, k2, k3, k4, k5⟩ := hh; exact ⟨p, k1, k2, k3, k4, tdown p k5⟩
  · obtain ⟨p, k1, _, _, _, k5⟩ := S.ownS he
    rw [z] at k1; cases k1
    rw [upd_same] at k5; cases k5
/-- an exception: the number of its class, its values by name -/
structure Xm where
  n : Nat
  fs : List (Str × D)
inductive Out (α : Type) where
  | ok (a : α) | ex (x : Xm) | no
namespace Out
variable {α β σ ρ : Type}
def sat (m : Out α) (Q : α → Prop) (E : Xm → Prop) : Prop := match m with
  | .ok a => Q a
  | .ex x => E x
  | .no => False
def bind (m : Out α) (f : α → Out β) : Out β := match m with
  | .ok a => f a
  | .ex x => .ex x
  | .no => .no
/-- no exception is let out -/
def nox (m : Out α) : Out α := match m with
  | .ok a => .ok a
  | _ => .no
@[irreducible] def guard (p : Prop) [Decidable p] : Out Unit := if p then .ok () else .no
def get (o : Option α) : Out α := match o with
  | some a => .ok a
  | none => .no
theorem sat.imp {m : Out α} {Q Q' : α → Prop} {E E' : Xm → Prop} (h : m.sat Q E) (k : ∀ a, Q a → Q' a) (e : ∀ x, E x → E' x) : m.sat Q' E' := by
  cases m with
  | ok a => exact k a h
  | ex x => exact e x h
  | no => exact h
theorem sb {m : Out α} {f : α → Out β} {Q : β → Prop} {E : Xm → Prop} (h : (m.bind f).sat Q E) : m.sat (fun a => (f a).sat Q E) E := by
  cases m with
  | ok a => exact h
  | ex x => exact h
  | no => exact h
theorem nx {m : Out α} {Q : α → Prop} {E E' : Xm → Prop} (h : m.nox.sat Q E) : m.sat Q E' := by
  cases m with
  | ok a => exact h
  | ex x => exact h.elim
  | no => exact h
theorem gd {p : Prop} [Decidable p] {f : Unit → Out β} {Q : β → Prop} {E : Xm → Prop} (h : ((guard p).bind f).sat Q E) : p ∧ (f ()).sat Q E := by
  by_cases hp : p
  · unfold guard at h; rw [if_pos hp] at h; exact ⟨hp, h⟩
  · unfold guard at h; rw [if_neg hp] at h; exact h.elim
theorem gt {o : Option α} {f : α → Out β} {Q : β → Prop} {E : Xm → Prop} (h : ((get o).bind f).sat Q E) : ∃ a, o = some a ∧ (f a).sat Q E := by
  cases o with
  | none => exact h.elim
  | some a => exact ⟨a, rfl, h⟩
theorem iteb {c : Bool} {a b : Out α} {Q : α → Prop} {E : Xm → Prop} (h : (if c = true then a else b).sat Q E) : (c = true → a.sat Q E) ∧ (c = false → b.sat Q E) :=
  ⟨fun hc => by rw [if_pos hc] at h; exact h, fun hc => by rw [if_neg (by rw [hc]; exact Bool.false_ne_true)] at h; exact h⟩
@[simp] theorem bind_ok (a : α) (f : α → Out β) : (Out.ok a).bind f = f a := rfl
@[simp] theorem bind_ex (x : Xm) (f : α → Out β) : (Out.ex x : Out α).bind f = .ex x := rfl
@[simp] theorem bind_no (f : α → Out β) : (Out.no : Out α).bind f = .no := rfl
@[simp] theorem nox_ok (a : α) : (Out.ok a).nox = .ok a := rfl
@[simp] theorem get_some (a : α) : Out.get (some a) = .ok a := rfl
theorem guard_pos {p : Prop} [Decidable p] (h : p) : guard p = .ok () := by unfold guard; exact if_pos h
/-- a loop without a return -/
def fold (f : σ → α → Out σ) : List α → σ → Out σ
  | [], s => .ok s
  | x :: xs, s => (f s x).bind (fold f xs)
/-- a while, of at most so many turns -/
def whl (c : σ → Out Bool) (f : σ → Out σ) : Nat → σ → Out σ
  | 0, _ => .no
  | n + 1, s => (c s).bind fun b => if b = true then (f s).bind (whl c f n) else .ok s
/-- .. with a state -/
def compS (f : σ → α → Out (Option β × σ)) : List α → List β → σ → Out (List β × σ)
  | [], acc, s => .ok (acc, s)
  | x :: xs, acc, s => (f s x).bind fun p => compS f xs (match p.1 with
    | some y => acc ++ [y]
    | none => acc) p.2
end Out
open Out (Rt)
abbrev eI : Int → D := D.int
abbrev eB : Bool → D := D.bl
abbrev eU : Unit → D := fun _ => .non
abbrev eL {α : Type} (f : α → D) : List α → D := fun xs => .lst (xs.map f)
abbrev eT {α : Type} (f : α → D) : List α → D := fun xs => .tup (xs.map f)
abbrev eP {α β : Type} (f : α → D) (g : β → D) : α × β → D := fun p => .tup [f p.1, g p.2]
abbrev eP3 {α β γ : Type} (f : α → D) (g : β → D) (h : γ → D) : α × β × γ → D := fun p => .tup [f p.1, g p.2.1, h p.2.2]
abbrev kI : Int → Key := Sum.inl
def eDl {κ ν : Type} (k : κ → Key) (f : ν → D) (kvs : List (κ × ν)) : List (Key × D) := kvs.map fun p => (k p.1, f p.2)
abbrev eD {κ ν : Type} (k : κ → Key) (f : ν → D) : List (κ × ν) → D := fun kvs => .dic (kvs.map fun p => k p.1) (kvs.map fun p => f p.2)
theorem eD_dicD {κ ν : Type} (k : κ → Key) (f : ν → D) (kvs : List (κ × ν)) : dicD (eDl k f kvs) = eD k f kvs := by
  unfold dicD eDl
  rw [List.map_map, List.map_map]; rfl
/-- the class of an exception of the mirrors -/
def xnOf (cx : Nat → Addr) (m : Xm) : Exn := ⟨.ref (cx m.n), m.fs⟩
/-- a def without draws -/
def FM (cx : Nat → Addr) {A R : Type} (en : A → List D) (er : R → Res) (f : A → Out R) : FSp := fun ds G post px => ∃ a : A, ds = en a ∧ (f a).sat (fun v => post (er v) G) (fun m => px (xnOf cx m) G)
/-- the box of draws -/
abbrev Bx := List Int × Int
def bxG (G0 : GD) (b g : Addr) (x : Bx) : GD := updG (updG G0 g (.lst (x.1.map D.int))) b (.lst [.adr g, .int x.2])
/-- a def with the box as its first argument; no exception leaves it -/
def FB {A R : Type} (en : A → List D) (er : R → Res) (f : A → Bx → Out (R × Bx)) : FSp := fun ds G post _ => ∃ (a : A) (G0 : GD) (b g : Addr) (x : Bx), g ≠ b ∧ ds = .adr b :: en a ∧ G = bxG G0 b g x ∧ (f a x).sat (fun v => post (er v.1) (bxG G0 b g v.2)) (fun _ => False)
theorem bxG_b {G0 : GD} {b g : Addr} {x : Bx} : bxG G0 b g x b = some (.lst [.adr g, .int x.2]) := updG_same
theorem bxG_g {G0 : GD} {b g : Addr} {x : Bx} (h : g ≠ b) : bxG G0 b g x g = some (.lst (x.1.map D.int)) := by unfold bxG; rw [updG_ne h, updG_same]
theorem bxG_setB {G0 : GD} {b g : Addr} {x : Bx} {st : Int} : updG (bxG G0 b g x) b (.lst [.adr g, .int st]) = bxG G0 b g (x.1, st) := by
  unfold bxG
  funext a
  by_cases h : a = b
  · subst h; rw [updG_same, updG_same]
  · rw [updG_ne h, updG_ne h, updG_ne h]
theorem bxG_setG {G0 : GD} {b g : Addr} {x : Bx} {ns : List Int} (h : g ≠ b) : updG (bxG G0 b g x) g (.lst (ns.map D.int)) = bxG G0 b g (ns, x.2) := by
  unfold bxG
  funext a
  by_cases h1 : a = g
  · subst h1; rw [updG_same, updG_ne h, updG_same]
  · rw [updG_ne h1]
    by_cases h2 : a = b
    · subst h2; rw [updG_same, updG_same]
    · rw [updG_ne h2, updG_ne h1, updG_ne h2, updG_ne h1]
section
variable {X : Cy} {e a b c o tg kx vx elt : Expr} {es ifs : List Expr} {st : Stmt} {sts rest body orelse : List Stmt} {r : Env2} {G : GD} {pos tpos apos cpos p0 : Pos} {D0 : EndsD} {α β γ σT ρ : Type}
theorem wb_env (R : Env2) (hr : r = R) (k : WB X sts R G D0) : WB X sts r G D0 := by subst hr; exact k
theorem wb_let {e : α} {f : α → Out β} {Q : β → Prop} {E : Xm → Prop} (h : ((Out.ok e).bind f).sat Q E) (R : α → Env2) (hr : r = R e) (k : ∀ x, (f x).sat Q E → WB X sts (R x) G D0) : WB X sts r G D0 := by subst hr; exact k e h
theorem WG.weak {d : D} {r' : Env2} {is : List Nat} {Q : Env2 → GD → Prop} (w : Wk r r') (h : WG X tg d r' G is Q) : WG X tg d r G is Q := fun F0 T F H σ v lk S rp => h F0 T F H σ v lk (S.weak w) rp
theorem wb_frz (i : Nat) {d : D} (hi : r[i]? = some (.own d)) (hD : isDic d = false) (h : WB X sts (r.set i (.sh d)) G D0) : WB X sts r G D0 := fun F0 T F H σ lk S pins s I => by
  obtain ⟨F', k1, k2, _⟩ := S.frzSlot hD hi
  exact h F0 T F' H σ lk k2 pins s I
/-- what an end of a block with a state says -/
def AtS (env : σT → Env2) (gg : σT → GD) (Q : σT → Prop) : Env2 → GD → Prop := fun r G => ∃ s, Wk r (env s) ∧ G = gg s ∧ Q s
theorem wb_join (env : σT → Env2) (gg : σT → GD) {m : Out σT} {f : σT → Out β} {Q : β → Prop} {E : Xm → Prop} (h : (m.bind f).sat Q E)
    (hs : ∀ Q' : σT → Prop, m.sat Q' E → WS X st r G { D0 with nx := AtS env gg Q' }) (k : ∀ s, (f s).sat Q E → WB X rest (env s) (gg s) D0) : WB X (st :: rest) r G D0 :=
  wb_cut (AtS env gg fun s => (f s).sat Q E) (hs _ (Out.sb h)) fun r1 G1 ⟨s, w, hg, q⟩ => by
    subst hg
    exact (k s q).weak w
theorem drop_at {xs : List α} {k : Nat} {x : α} (hx : xs[k]? = some x) : xs.drop k = x :: xs.drop (k + 1) := by
  obtain ⟨hk, hxk⟩ := List.getElem?_eq_some_iff.mp hx
  rw [List.drop_eq_getElem_cons hk, hxk]
theorem map_at {en : α → D} {xs : List α} {k : Nat} {d : D} (hd : (xs.map en)[k]? = some d) : ∃ x, xs[k]? = some x ∧ d = en x := by
  rw [List.getElem?_map] at hd
  cases hx : xs[k]? with
  | none => rw [hx] at hd; cases hd
  | some x => rw [hx] at hd; cases hd; exact ⟨x, rfl, rfl⟩
theorem wb_forO (is : List Nat) (env : σT → Env2) (gg : σT → GD) (en : α → D) (hp : PassesOwn (model X.prog X.w) X.A X.env X.xe) (hc : X.calm = true)
    (h : WI X tg e r G fun ds r2 G1 => ∃ (xs : List α) (s0 : σT) (f : σT → α → Out σT) (kk : σT → Out β) (Q : β → Prop) (E : Xm → Prop), ds = xs.map en ∧ Wk r2 (env s0) ∧ G1 = gg s0 ∧ ((Out.fold f xs s0).bind kk).sat Q E ∧
      (∀ (s : σT) (x : α) (Q' : σT → Prop), (f s x).sat Q' E → WG X tg (en x) (env s) (gg s) is fun r4 G4 => WB X body r4 G4 { D0 with nx := AtS env gg Q', ct := AtS env gg Q', bk := fun r1 G1 => WB X rest r1 G1 D0 }) ∧
      ∀ s, (kk s).sat Q E → WB X rest (env s) (gg s) D0) (hs : ∀ x, foldedSetIterable e X.env x = pure x := by intro _; rfl) : WB X (.For tg e body [] pos :: rest) r G D0 :=
  wb_cons (ws_for (is := is) hp hc (h.mono fun ds r2 G1 ⟨xs, s0, f, kk, Q, E, hd, w0, hg, h0, hb, hn⟩ => by
    subst hd hg
    refine ⟨fun k r3 G3 => AtS env gg (fun s => ((Out.fold f (xs.drop k) s).bind kk).sat Q E) r3 G3, ⟨s0, w0, rfl, h0⟩, fun k d r3 G3 hd ⟨s, w, hg, hq⟩ => ?_, fun r3 G3 ⟨s, w, hg, hq⟩ => ?_⟩
    · subst hg
      obtain ⟨x, hx, rfl⟩ := map_at hd
      rw [drop_at hx] at hq
      have hq' : (f s x).sat (fun s' => ((Out.fold f (xs.drop (k + 1)) s').bind kk).sat Q E) E := by
        have z : (((f s x).bind (Out.fold f (xs.drop (k + 1)))).bind kk).sat Q E := hq
        cases hf : f s x with
        | ok s' => rw [hf] at z; exact z
        | ex x' => rw [hf] at z; exact z
        | no => rw [hf] at z; exact z
      exact (hb s x _ hq').weak w
    · rw [List.length_map, List.drop_length] at hq
      subst hg
      exact (hn s hq).weak w) hs)
/-- while -/
theorem wb_whlO (n : Nat) (env : σT → Env2) (gg : σT → GD) (s0 : σT) (hp : PassesOwn (model X.prog X.w) X.A X.env X.xe) {cc : σT → Out Bool} {f : σT → Out σT} {kk : σT → Out β} {Q : β → Prop} {E : Xm → Prop} (w0 : Wk r (env s0)) (hg : G = gg s0) (h0 : ((Out.whl cc f n s0).bind kk).sat Q E)
    (hc : ∀ (s : σT) (Q' : Bool → Prop), (cc s).sat Q' E → WT X c (env s) (gg s) fun d r2 G2 => Wk r2 (env s) ∧ G2 = gg s ∧ Q' d)
    (hb : ∀ (s : σT) (Q' : σT → Prop), (f s).sat Q' E → WB X body (env s) (gg s) { D0 with nx := AtS env gg Q', ct := AtS env gg Q', bk := fun r1 G1 => WB X rest r1 G1 D0 })
    (hn : ∀ s, (kk s).sat Q E → WB X rest (env s) (gg s) D0) : WB X (.While c body [] pos :: rest) r G D0 := by
  subst hg
  refine wb_cons (ws_while hp (fun m r1 G1 => AtS env gg (fun s => ((Out.whl cc f m s).bind kk).sat Q E) r1 G1) n ⟨s0, w0, rfl, h0⟩ fun m r1 G1 ⟨s, w, hg, hq⟩ => ?_)
  subst hg
  cases m with
  | zero => exact hq.elim
  | succ m =>
    have hq1 : (cc s).sat (fun b => if b = true then (f s).sat (fun s' => ((Out.whl cc f m s').bind kk).sat Q E) E else (kk s).sat Q E) E := by
      have z : (((cc s).bind fun b => if b = true then (f s).bind (Out.whl cc f m) else .ok s).bind kk).sat Q E := hq
      cases hcc : cc s with
      | ok b =>
        rw [hcc] at z
        cases b with
        | true =>
          have z' : (((f s).bind (Out.whl cc f m)).bind kk).sat Q E := z
          show (f s).sat _ E
          cases hf : f s with
          | ok s' => rw [hf] at z'; exact z'
          | ex x' => rw [hf] at z'; exact z'
          | no => rw [hf] at z'; exact z'
        | false => exact z
      | ex x' => rw [hcc] at z; exact z
      | no => rw [hcc] at z; exact z
    have q := hc s _ hq1
    refine fun F0 T F H σ lk S => (q F0 T F H σ lk (S.weak w)).mono fun d H2 ⟨r2, G2, F2, e2, S2, w2, hg2, q2⟩ => ?_
    subst hg2
    refine ⟨env s, gg s, F2, e2, S2.weak w2, fun hd => ?_, fun hd => ?_⟩
    · subst hd
      exact WB.mono (hb s _ q2) (fun r3 G3 z => ⟨m, Nat.lt_succ_self _, z⟩) (fun _ _ z => z) (fun _ _ z => z) (fun r3 G3 z => ⟨m, Nat.lt_succ_self _, z⟩)
    · subst hd
      exact hn s q2
end
open Out (Rt)
section
variable {κ ν : Type} [DecidableEq κ]
def dput (kvs : List (κ × ν)) (k : κ) (v : ν) : List (κ × ν) := if (kvs.any fun p => decide (p.1 = k)) = true then kvs.map (fun p => if p.1 = k then (p.1, v) else p) else kvs ++ [(k, v)]
def dget (kvs : List (κ × ν)) (k : κ) : Option ν := (kvs.find? fun p => decide (p.1 = k)).map (·.2)
def dhas (kvs : List (κ × ν)) (k : κ) : Bool := kvs.any fun p => decide (p.1 = k)
def dmk (kvs : List (κ × ν)) : List (κ × ν) := kvs.foldl (fun acc p => dput acc p.1 p.2) []
end
/-- keys that are told apart -/
def KInj {κ : Type} (k : κ → Key) : Prop := ∀ a b, k a = k b → a = b
theorem kI_inj : KInj kI := fun _ _ h => Sum.inl.inj h
section
variable {κ ν : Type} [DecidableEq κ] {k : κ → Key} {f : ν → D}
theorem any_key (hk : KInj k) (kvs : List (κ × ν)) (x : κ) : ((eDl k f kvs).any fun kv => decide (kv.1 = k x)) = kvs.any fun p => decide (p.1 = x) := by
  unfold eDl
  rw [List.any_map]
  congr 1
  funext p
  show decide (k p.1 = k x) = decide (p.1 = x)
  by_cases h : p.1 = x
  · rw [h]; simp
  · have : ¬ k p.1 = k x := fun z => h (hk _ _ z)
    simp [h, this]
theorem putD_eDl (hk : KInj k) (kvs : List (κ × ν)) (x : κ) (v : ν) : putD (eDl k f kvs) (k x) (f v) = eDl k f (dput kvs x v) := by
  unfold putD dput
  rw [any_key hk]
  by_cases h : (kvs.any fun p => decide (p.1 = x)) = true
  · rw [if_pos h, if_pos h]
    unfold eDl
    rw [List.map_map, List.map_map]
    congr 1
    funext p
    show (if k p.1 = k x then (k p.1, f v) else (k p.1, f p.2)) = (k (if p.1 = x then (p.1, v) else p).1, f (if p.1 = x then (p.1, v) else p).2)
    by_cases hp : p.1 = x
    · rw [if_pos (by rw [hp]), if_pos hp]
    · rw [if_neg (fun z => hp (hk _ _ z)), if_neg hp]
  · rw [if_neg h, if_neg h]
    unfold eDl
    rw [List.map_append]; rfl
theorem dput_len (kvs : List (κ × ν)) (x : κ) (v : ν) : (dput kvs x v).length ≤ kvs.length + 1 := by
  unfold dput
  split
  · rw [List.length_map]; omega
  · rw [List.length_append]; exact Nat.le_refl _
end
/-- the value at a key -/
def valD (kvs : List (Key × D)) (k : Key) : Option D := (kvs.find? fun kv => decide (kv.1 = k)).map (·.2)
theorem valD_rep {K : PySem.W.Frag} {F : Hp} {k : Key} : ∀ {acc : List (Key × D)} {us : List (Key × V)}, DRep K F acc us → (valD acc k = none ∧ valV us k = none) ∨ ∃ d v, valD acc k = some d ∧ valV us k = some v ∧ Rep K F d v
  | [], us, h => by
    rw [show us = [] from h]; exact .inl ⟨rfl, rfl⟩
  | p :: acc, _, ⟨u, us', h1, h2, h3, h4⟩ => by
    subst h1
    unfold valD valV
    rw [List.find?_cons, List.find?_cons, h2]
    by_cases hk : p.1 = k
    · rw [decide_eq_true hk]
      exact .inr ⟨p.2, u.2, rfl, rfl, h3⟩
    · rw [decide_eq_false hk]
      exact valD_rep h4
theorem valD_eDl {κ ν : Type} [DecidableEq κ] {k : κ → Key} {f : ν → D} (hk : KInj k) (kvs : List (κ × ν)) (x : κ) : valD (eDl k f kvs) (k x) = (dget kvs x).map f := by
  unfold valD dget eDl
  induction kvs with
  | nil => rfl
  | cons p kvs ih =>
    rw [List.map_cons, List.find?_cons, List.find?_cons]
    show (match decide (k p.1 = k x) with | true => some (k p.1, f p.2) | false => _).map _ = _
    by_cases h : p.1 = x
    · rw [decide_eq_true (by rw [h]), decide_eq_true h]; rfl
    · rw [decide_eq_false (fun z => h (hk _ _ z)), decide_eq_false h]; exact ih
theorem dget_isSome {κ ν : Type} [DecidableEq κ] (kvs : List (κ × ν)) (x : κ) : (dget kvs x).isSome = dhas kvs x := by
  unfold dget dhas
  rw [Option.isSome_map]
  induction kvs with
  | nil => rfl
  | cons p kvs ih =>
    rw [List.find?_cons, List.any_cons]
    by_cases h : p.1 = x
    · rw [decide_eq_true h]; rfl
    · rw [decide_eq_false h, Bool.false_or]; exact ih
theorem zip_eDl {κ ν : Type} {k : κ → Key} {f : ν → D} (kvs : List (κ × ν)) : (kvs.map fun p => k p.1).zip (kvs.map fun p => f p.2) = eDl k f kvs := by
  unfold eDl
  induction kvs with
  | nil => rfl
  | cons p kvs ih => rw [List.map_cons, List.map_cons, List.map_cons, List.zip_cons_cons, ih]
section
variable {X : Cy} {e a b c o tg kx vx elt i : Expr} {es ifs : List Expr} {st : Stmt} {sts rest body orelse : List Stmt} {r : Env2} {G : GD} {pos tpos apos cpos p0 : Pos} {D0 : EndsD} {α β γ σT ρ : Type}
theorem vw_kD {K : PySem.W.Frag} {F H : Hp} {k : Key} {v : V} (h : Vw K F H (kD k) v) : v = kV k := by
  cases k with
  | inl n => exact h.int
  | inr x => exact h.str
/-- a dict that is looked at -/
theorem Vw.dics {K : PySem.W.Frag} {F H : Hp} (ex : Ex F H) {ks : List Key} {ds : List D} {v : V} (h : Vw K F H (.dic ks ds) v) : ∃ p us, v = .ref p ∧ Rd H p (.dK us) ∧ DRep K F (ks.zip ds) us := by
  obtain ⟨p, vs, rfl, k1, k2, k3⟩ := h.dic ex
  exact ⟨p, _, rfl, k1, DRep.of k2 k3⟩
def rDIn : R2 := fun y x H Q => ∃ a ov, x = .ref a ∧ DGet H a y ov ∧ Q (.bl ov.isSome) H
theorem op_din {X : Cx} (hu : X.A.units + 1 < cLine) : OpR X (compareOp .In) rDIn := fun pins s σ H y x u v Q I ry rx ⟨a, ov, ex, g, q⟩ => by
  subst ex
  cases (show v = Value.ref a from rx)
  exact d_in hu I g ry fun s' I' => ⟨.bl ov.isSome, H, I', rfl, q⟩
def rDNin : R2 := fun y x H Q => ∃ a ov, x = .ref a ∧ DGet H a y ov ∧ Q (.bl (!ov.isSome)) H
theorem op_dnin {X : Cx} (hu : X.A.units + 1 < cLine) : OpR X (compareOp .NotIn) rDNin := fun pins s σ H y x u v Q I ry rx ⟨a, ov, ex, g, q⟩ => by
  subst ex
  cases (show v = Value.ref a from rx)
  exact d_notIn hu I g ry fun s' I' => ⟨.bl (!ov.isSome), H, I', rfl, q⟩
theorem val_some {K : PySem.W.Frag} {F : Hp} {k : Key} {acc : List (Key × D)} {us : List (Key × V)} (h : DRep K F acc us) : (valV us k).isSome = (valD acc k).isSome := by
  rcases valD_rep (k := k) h with ⟨h1, h2⟩ | ⟨d, v, h1, h2, _⟩
  · rw [h1, h2]; rfl
  · rw [h1, h2]; rfl
theorem opw_din {κ ν : Type} [DecidableEq κ] {k : κ → Key} {f : ν → D} {kvs : List (κ × ν)} {x : κ} {Q : Res → Prop} (hk : KInj k) (hu : X.A.units + 64 < cLine) (q : Q (.sh (.bl (dhas kvs x)))) : OpW X (compareOp .In) (kD (k x)) (eD k f kvs) Q := fun F0 T F G H r σ va vb S h1 h2 => by
  obtain ⟨p, us, rfl, z1, z2⟩ := h2.dics S.bas.fh
  rw [zip_eDl] at z2
  have hv : va = kV (k x) := vw_kD h1
  subst hv
  refine ⟨_, op_din (by omega), p, _, rfl, .inl ⟨us, k x, z1, rfl, rfl⟩, .sh (.bl (dhas kvs x)), F, Ex.refl _, S, ?_, q⟩
  show V.bl _ = V.bl _
  rw [val_some z2, valD_eDl hk, Option.isSome_map, dget_isSome]
theorem opw_dnin {κ ν : Type} [DecidableEq κ] {k : κ → Key} {f : ν → D} {kvs : List (κ × ν)} {x : κ} {Q : Res → Prop} (hk : KInj k) (hu : X.A.units + 64 < cLine) (q : Q (.sh (.bl (!dhas kvs x)))) : OpW X (compareOp .NotIn) (kD (k x)) (eD k f kvs) Q := fun F0 T F G H r σ va vb S h1 h2 => by
  obtain ⟨p, us, rfl, z1, z2⟩ := h2.dics S.bas.fh
  rw [zip_eDl] at z2
  have hv : va = kV (k x) := vw_kD h1
  subst hv
  refine ⟨_, op_dnin (by omega), p, _, rfl, .inl ⟨us, k x, z1, rfl, rfl⟩, .sh (.bl (!dhas kvs x)), F, Ex.refl _, S, ?_, q⟩
  show V.bl _ = V.bl _
  rw [val_some z2, valD_eDl hk, Option.isSome_map, dget_isSome]
/-- d[k] -/
theorem we_dget {κ ν : Type} [DecidableEq κ] {k : κ → Key} {f : ν → D} (hk : KInj k) (hu : X.A.units + 64 < cLine) {Q : Res → Env2 → GD → Prop} (hs : NoSl i)
    (h : WE X o r G fun x r1 G1 => WE X i r1 G1 fun y r2 G2 => ∃ kvs key v, VwR r2 G2 x (eD k f kvs) ∧ vw r2 y = some (kD (k key)) ∧ dget kvs key = some v ∧ Q (.sh (f v)) r2 G2) : WE X (.Subscript o i pos) r G Q := fun F0 T F H σ lk S =>
  Run.of (pe_dget (by omega) peR peR hs) (by
    refine (h F0 T F H σ lk S).mono fun va H1 ⟨x, r1, G1, F1, e1, S1, k1, h1⟩ => ?_
    obtain ⟨F1', e1', S1', hv⟩ := hold S1 k1
    refine (h1 F0 T F1' H1 σ lk S1').mono fun vb H2 ⟨y, r2, G2, F2, e2, S2, k2, kvs, key, v, q1, q2, q3, q4⟩ => ?_
    obtain ⟨p, us, hp, z1, z2⟩ := (hv F2 G2 H2 r2 _ e2 S2 q1).dics S2.bas.fh
    subst hp
    rw [zip_eDl] at z2
    have hvb : vb = kV (k key) := vw_kD (S2.view k2 q2)
    subst hvb
    rcases valD_rep (k := k key) z2 with ⟨m1, m2⟩ | ⟨d, w, m1, m2, m3⟩
    · rw [valD_eDl hk, q3] at m1; cases m1
    · rw [valD_eDl hk, q3] at m1
      cases m1
      exact ⟨p, w, rfl, .inl ⟨us, k key, z1, rfl, m2.symm⟩, .sh (f v), r2, G2, F2, (e1.trans e1').trans e2, S2, m3, q4⟩)
/-- d.get(k, x) -/
theorem we_dget2 {κ ν : Type} [DecidableEq κ] {k : κ → Key} {f : ν → D} (hk : KInj k) (hu : X.A.units + 64 < cLine) {Q : Res → Env2 → GD → Prop}
    (h : WE X o r G fun x r1 G1 => ∃ kvs, VwR r1 G1 x (eD k f kvs) ∧ WE X a r1 G1 fun y r2 G2 => ∃ key, y = .sh (kD (k key)) ∧ WE X b r2 G2 fun z r3 G3 => ∃ d r4 kvs, fz r3 z = some (d, r4) ∧ VwR r4 G3 x (eD k f kvs) ∧ Q (.sh (match dget kvs key with | some v => f v | none => d)) r4 G3)
    (base : attributeBase o "get" X.env (eval o X.env) = eval o X.env := by rfl)
    (few : ((backTo cpos (starEach [a, b] X.env)).all (fun x => !x.1) && (backToKw cpos (keywordEach [] X.env)).all (fun x => x.1.isSome) && decide (([a, b] : List Expr).length + ([] : List Keyword).length + (if ([] : List Keyword).isEmpty then 0 else 1) < 30)) = true := by rfl)
    (line : (apos.endLine == cpos.line) = true := by rfl) (trees : backTo cpos (starEach [a, b] X.env) = [(false, eval a X.env), (false, eval b X.env)] := by rfl) : WE X (.Call (.Attribute o "get" apos) [a, b] [] cpos) r G Q := fun F0 T F H σ lk S =>
  Run.of (pe_dget2 (by omega) peR peR peR ⟨base, few, line, trees⟩) (by
    refine (h F0 T F H σ lk S).mono fun va H1 ⟨x, r1, G1, F1, e1, S1, k1, kvs0, v0, h1⟩ => ?_
    obtain ⟨F1', e1', S1', hv⟩ := hold S1 k1
    obtain ⟨p, us0, hp, z1, _⟩ := (hv F1' G1 H1 r1 _ (Ex.refl _) S1' v0).dics S1'.bas.fh
    subst hp
    refine ⟨p, rfl, .inl ⟨us0, z1⟩, (h1 F0 T F1' H1 σ lk S1').mono fun vb H2 ⟨y, r2, G2, F2, e2, S2, k2, key, hy, h2⟩ => ?_⟩
    subst hy
    have hvb : vb = kV (k key) := rep_kD k2
    subst hvb
    refine (h2 F0 T F2 H2 σ lk S2).mono fun vz H3 ⟨z, r3, G3, F3, e3, S3, k3, d, r4, kvs, q1, q2, q3⟩ => ?_
    obtain ⟨F4, e4, S4, rp⟩ := S3.fz k3 q1
    obtain ⟨p', us, hp', y1, y2⟩ := (hv F4 G3 H3 r4 _ ((e2.trans e3).trans e4) S4 q2).dics S4.bas.fh
    cases hp'
    rw [zip_eDl] at y2
    rcases valD_rep (k := k key) y2 with ⟨m1, m2⟩ | ⟨d', w, m1, m2, m3⟩
    · rw [valD_eDl hk] at m1
      have hn : dget kvs key = none := by
        cases hg : dget kvs key with
        | none => rfl
        | some v => rw [hg] at m1; cases m1
      rw [hn] at q3
      exact ⟨none, .inl ⟨us, k key, y1, rfl, m2.symm⟩, .sh d, r4, G3, F4, (((e1.trans e1').trans e2).trans e3).trans e4, S4, rp, q3⟩
    · rw [valD_eDl hk] at m1
      cases hg : dget kvs key with
      | none => rw [hg] at m1; cases m1
      | some v =>
        rw [hg] at m1 q3
        cases m1
        exact ⟨some w, .inl ⟨us, k key, y1, rfl, m2.symm⟩, .sh (f v), r4, G3, F4, (((e1.trans e1').trans e2).trans e3).trans e4, S4, m3, q3⟩)
/-- {} -/
theorem we_dnew {Q : Res → Env2 → GD → Prop} (q : Q (.fr (.dic [] [])) r G) : WE X (.Dict [] [] pos) r G Q := fun F0 T F H σ lk S =>
  Run.of pe_dnewK fun p hp => by
    obtain ⟨f1, f2, f3⟩ := S.bas.freshF hp
    exact ⟨.fr (.dic [] []), r, G, F, Ex.refl _, S.newH hp, ⟨p, rfl, ⟨[], upd_same, rfl, rfl⟩, f1, f2, f3, S.freshR hp⟩, q⟩
/-- d[k] = v, d an own slot -/
theorem ws_dput {κ ν : Type} [DecidableEq κ] {k : κ → Key} {f : ν → D} (hk : KInj k) (hu : X.A.units + 64 < cLine)
    (h : WE X e r G fun z r1 G1 => ∃ v r2, fz r1 z = some (f v, r2) ∧ WE X o r2 G1 fun x r3 G3 => ∃ j, x = .pk j ∧ WE X i r3 G3 fun y r4 G4 => ∃ kvs key, y = .sh (kD (k key)) ∧ r4[j]? = some (.own (eD k f kvs)) ∧ kvs.length < LIM ∧ D0.nx (r4.set j (.own (eD k f (dput kvs key v)))) G4)
    (hs : swapsWith e (some (.Subscript o i tpos)) pos.line X.env = pure false := by rfl) : WS X (.Assign [.Subscript o i tpos] e pos) r G D0 := fun F0 T F H σ lk S =>
  RunS.of (ps_dput (by omega) peR peR peR hs) ((h F0 T F H σ lk S).mono fun v0 H1 ⟨z, r1, G1, F1, e1, S1, k1, v, r2, q1, h1⟩ => by
    obtain ⟨F1', e1', S1', rp⟩ := S1.fz k1 q1
    refine (h1 F0 T F1' H1 σ lk S1').mono fun vo H2 ⟨x, r3, G3, F2, e2, S2, k2, j, hx, h2⟩ => ?_
    subst hx
    obtain ⟨k2a, _⟩ := k2
    refine (h2 F0 T F2 H2 σ lk S2).mono fun vi H3 ⟨y, r4, G4, F3, e3, S3, k3, kvs, key, hy, hj, hl, q⟩ => ?_
    subst hy
    have hvi : vi = kV (k key) := rep_kD k3
    subst hvi
    obtain ⟨p, m1, ⟨vs, m2, m3, m4⟩, m5, m6⟩ := S3.mut hj
    rw [k2a] at m1; cases m1
    have dr := DRep.of m3 m4
    rw [zip_eDl] at dr
    have dr2 := dr.put (k := k key) (Rep.mono (e2.trans e3) _ _ rp)
    rw [putD_eDl hk] at dr2
    have ow := own_dicD (H := upd H3 p (.dK (putK ((kvs.map fun p => k p.1).zip vs) (k key) v0))) dr2 upd_same
    rw [eD_dicD] at ow
    refine ⟨p, _, rfl, DPut.k m2 (by rw [dr.length]; unfold eDl; rw [List.length_map]; exact lim_lt hl), _, G4, F3, m6 _ _ ow, q⟩)
abbrev Blk (X : Cy) (scope : Scope) (P : Cy → Prop) : Prop := ∀ Y, BlkX X scope Y → P Y
/-- an item that is made: the state as it was -/
def Made (R : Env2) (G : GD) (is : List Nat) (d : D) : Res → Env2 → GD → Prop := fun z r2 G2 => ∃ r3, fz r2 z = some (d, r3) ∧ Wk (wipeD r3 is) R ∧ G2 = G
theorem WG.mono {d : D} {is : List Nat} {Q Q' : Env2 → GD → Prop} (h : WG X tg d r G is Q) (k : ∀ r G, Q r G → Q' r G) : WG X tg d r G is Q' := fun F0 T F H σ v lk S rp pins s u I rv =>
  wpAny_mono (h F0 T F H σ v lk S rp pins s u I rv) (fun _ _ ⟨σ', H', I', hw, r', G', F', e', S', q'⟩ => ⟨σ', H', I', hw, r', G', F', e', S', k _ _ q'⟩) fun _ _ x => x
/-- what is known of slots is forgotten behind an expression -/
theorem WE.wkp {Q : Res → Env2 → GD → Prop} (h : WE X e r G fun x r1 G1 => ∃ R, Wk r1 R ∧ (∀ i, x ≠ .pk i) ∧ Q x R G1) : WE X e r G Q := fun F0 T F H σ lk S =>
  (h F0 T F H σ lk S).mono fun v H1 ⟨x, r1, G1, F1, e1, S1, k1, R, w, hx, q⟩ => by
    refine ⟨x, R, G1, F1, e1, S1.weak w, ?_, q⟩
    cases x with
    | sh d => exact k1
    | pk i => exact absurd rfl (hx i)
    | fr d =>
      obtain ⟨p, z1, z2, z3, z4, z5, z6⟩ := k1
      refine ⟨p, z1, z2, z3, z4, z5, fun i e he => ?_⟩
      rcases w.get i _ he with z | z
      · cases z
      · exact z6 i e z
/-- what a comprehension asks of its turns -/
def LcPre (X : Cy) (scope : Scope) (tg e elt : Expr) (ifs : List Expr) (is : List Nat) (r : Env2) (G : GD) (Q : Res → Env2 → GD → Prop) : Prop :=
  WI X tg e r G fun ds r2 G1 => ∃ I : Nat → List D → Env2 → GD → Prop, I 0 [] (wipeD r2 is) G1 ∧ (∀ (k : Nat) (d : D) (acc : List D) (r3 : Env2) (G3 : GD), ds[k]? = some d → I k acc r3 G3 → LcTurn X scope tg elt ifs is d acc r3 G3 (I (k + 1))) ∧
      ∀ acc r3 G3, I ds.length acc r3 G3 → Q (.fr (.lst acc)) r3 G3
/-- .. its result known at R -/
def atR (Q : Res → Env2 → GD → Prop) : Res → Env2 → GD → Prop := fun x r1 G1 => ∃ R, Wk r1 R ∧ (∀ i, x ≠ .pk i) ∧ Q x R G1
theorem Wk.set {a b : Env2} (w : Wk a b) (s : Sl) : ∀ i, Wk (a.set i s) (b.set i s) := by
  induction w with
  | nil => intro i; exact .nil
  | no h ih => intro i; cases i with
    | zero => exact .eq h
    | succ i => exact .no (ih i)
  | eq h ih => intro i; cases i with
    | zero => exact .eq h
    | succ i => exact .eq (ih i)
theorem we_lcQ {scope : Scope} (own : List (Str × Nat)) {Q : Res → Env2 → GD → Prop} (hc : X.calm = true) (hN : X.N.Nodup) (ok : BlkOk X.N X.env.scope scope own) (h : LcPre X scope tg e elt ifs (own.map (·.2)) r G (atR Q)) (hs : ∀ x, foldedSetIterable e X.env x = pure x := by intro _; rfl) :
    WE X (.ListComp elt [⟨tg, e, ifs, 0⟩] scope pos) r G Q := WE.wkp (we_lc own hc hN ok h hs)
/-- y = [..] -/
theorem wb_setLcQ {scope : Scope} (own : List (Str × Nat)) (i : Nat) {y : Str} {py spos : Pos} (hc : X.calm = true) (hN : X.N.Nodup) (hy : X.N[i]? = some y) (hyl : X.env.scope.names.lookup y = some .local)
    (hsw : swapsWith (.ListComp elt [⟨tg, e, ifs, 0⟩] scope pos) (some (.Name y py)) spos.line X.env = pure true) (ok : BlkOk X.N X.env.scope scope own)
    (h : LcPre X scope tg e elt ifs (own.map (·.2)) r G (atR fun x R G1 => i < R.length ∧ ∃ R', putS R i x = some R' ∧ WB X rest R' G1 D0)) (hs : ∀ x, foldedSetIterable e X.env x = pure x := by intro _; rfl) :
    WB X (.Assign [.Name y py] (.ListComp elt [⟨tg, e, ifs, 0⟩] scope pos) spos :: rest) r G D0 :=
  wb_cons (ws_setLc own i hc hN hy hyl hsw ok (WI.mono h fun ds r2 G1 ⟨I, i0, it, ie⟩ => ⟨I, i0, it, fun acc r3 G3 q => by
    obtain ⟨R, w, _, hi, R', hR, k⟩ := ie acc r3 G3 q
    cases hR
    exact ⟨by rw [← w.len]; exact hi, _, rfl, k.weak (w.set _ i)⟩⟩) hs)
/-- [elt for tg in e], nothing that may fail -/
theorem lc0_pre {scope : Scope} (own : List (Str × Nat)) (R : Env2) {en : α → D} (ey : β → D) (g : α → β) {Q : Res → Env2 → GD → Prop}
    (h : WI X tg e r G fun ds r2 G1 => ∃ xs : List α, ds = xs.map en ∧ xs.length ≤ LIM ∧ Wk (wipeD r2 (own.map (·.2))) R ∧
      (∀ x, Blk X scope fun Y => WG Y tg (en x) R G1 (own.map (·.2)) fun r3 G3 => Blk X scope fun Y => WE Y elt r3 G3 (Made R G1 (own.map (·.2)) (ey (g x)))) ∧ Q (.fr (.lst ((xs.map g).map ey))) R G1) : LcPre X scope tg e elt [] (own.map (·.2)) r G (atR Q) :=
  h.mono fun ds r2 G1 ⟨xs, hd, hl, w, hb, q⟩ => by
    subst hd
    refine ⟨fun k acc r3 G3 => Wk r3 R ∧ G3 = G1 ∧ acc = ((xs.take k).map g).map ey, ⟨w, rfl, rfl⟩, fun k d acc r3 G3 hd ⟨w3, hG, ha⟩ => ?_, fun acc r3 G3 ⟨w3, hG, ha⟩ => ?_⟩
    · subst hG ha
      obtain ⟨x, hx, rfl⟩ := map_at hd
      have hlt : k < xs.length := (List.getElem?_eq_some_iff.mp hx).1
      intro Y hY
      refine WG.mono (WG.weak w3 (hb x Y hY)) fun r4 G4 q' Y hY => (q' Y hY).mono fun zz r5 G5 ⟨r6, m1, m2, m3⟩ => ⟨ey (g x), r6, m1, ?_, m2, m3, ?_⟩
      · rw [List.length_map, List.length_map, List.length_take]; omega
      · rw [List.take_add_one, hx, List.map_append, List.map_append]; rfl
    · subst hG ha
      rw [List.length_map, List.take_length]
      exact ⟨R, w3, (fun i z => by cases z), q⟩
/-- [elt for tg in e if c] -/
theorem filter_at {p : α → Bool} {xs : List α} {k : Nat} {x : α} (hx : xs[k]? = some x) : (xs.take (k + 1)).filter p = (xs.take k).filter p ++ (if p x = true then [x] else []) := by
  rw [List.take_add_one, hx, List.filter_append]
  congr 1
  show List.filter p [x] = _
  by_cases h : p x = true <;> simp [h]
theorem lc1_pre {scope : Scope} (own : List (Str × Nat)) (R : Env2) {en : α → D} (ey : β → D) (p : α → Bool) (g : α → β) {Q : Res → Env2 → GD → Prop}
    (h : WI X tg e r G fun ds r2 G1 => ∃ xs : List α, ds = xs.map en ∧ xs.length ≤ LIM ∧ Wk (wipeD r2 (own.map (·.2))) R ∧
      (∀ x, Blk X scope fun Y => WG Y tg (en x) R G1 (own.map (·.2)) fun r3 G3 => Blk X scope fun Y => WT Y c r3 G3 fun b r4 G4 => b = p x ∧
        (p x = true → Blk X scope fun Y => WE Y elt r4 G4 (Made R G1 (own.map (·.2)) (ey (g x)))) ∧ (p x = false → Wk (wipeD r4 (own.map (·.2))) R ∧ G4 = G1)) ∧ Q (.fr (.lst (((xs.filter p).map g).map ey))) R G1) : LcPre X scope tg e elt [c] (own.map (·.2)) r G (atR Q) :=
  h.mono fun ds r2 G1 ⟨xs, hd, hl, w, hb, q⟩ => by
    subst hd
    refine ⟨fun k acc r3 G3 => Wk r3 R ∧ G3 = G1 ∧ acc = (((xs.take k).filter p).map g).map ey, ⟨w, rfl, rfl⟩, fun k d acc r3 G3 hd ⟨w3, hG, ha⟩ => ?_, fun acc r3 G3 ⟨w3, hG, ha⟩ => ?_⟩
    · subst hG ha
      obtain ⟨x, hx, rfl⟩ := map_at hd
      have hlt : k < xs.length := (List.getElem?_eq_some_iff.mp hx).1
      intro Y hY
      refine WG.mono (WG.weak w3 (hb x Y hY)) fun r4 G4 q' Y hY => (q' Y hY).mono fun b r5 G5 ⟨hbp, q1, q2⟩ => ⟨fun hb1 Y hY => ?_, fun hb0 => ?_⟩
      · have hp : p x = true := hbp ▸ hb1
        refine (q1 hp Y hY).mono fun zz r6 G6 ⟨r7, m1, m2, m3⟩ => ⟨ey (g x), r7, m1, ?_, m2, m3, ?_⟩
        · rw [List.length_map, List.length_map]
          have h1 := List.length_filter_le p (xs.take k)
          rw [List.length_take] at h1
          omega
        · rw [filter_at hx, if_pos hp, List.map_append, List.map_append]; rfl
      · have hp : p x = false := hbp ▸ hb0
        obtain ⟨w5, hG5⟩ := q2 hp
        refine ⟨w5, hG5, ?_⟩
        rw [filter_at hx, if_neg (by rw [hp]; exact Bool.false_ne_true), List.append_nil]
    · subst hG ha
      rw [List.length_map, List.take_length]
      exact ⟨R, w3, (fun i z => by cases z), q⟩
/-- [elt for tg in e if ..], by a mirror with a state -/
theorem compS_step {f : σT → α → Out (Option β × σT)} {xs : List α} {acc : List β} {s : σT} {x : α} {kk : List β × σT → Out γ} {Q : γ → Prop} {E : Xm → Prop} (h : ((Out.compS f (x :: xs) acc s).bind kk).sat Q E) :
    (f s x).sat (fun t => ((Out.compS f xs (match t.1 with | some y => acc ++ [y] | none => acc) t.2).bind kk).sat Q E) E := by
  have z : (((f s x).bind fun t => Out.compS f xs (match t.1 with | some y => acc ++ [y] | none => acc) t.2).bind kk).sat Q E := h
  cases hf : f s x with
  | ok t => rw [hf] at z; exact z
  | ex x' => rw [hf] at z; exact z
  | no => rw [hf] at z; exact z
theorem lcS_pre {scope : Scope} (own : List (Str × Nat)) (R : Env2) (gg : σT → GD) {en : α → D} (ey : β → D) {Q : Res → Env2 → GD → Prop}
    (h : WI X tg e r G fun ds r2 G1 => ∃ (xs : List α) (s0 : σT) (f : σT → α → Out (Option β × σT)) (kk : List β × σT → Out γ) (Q0 : γ → Prop) (E : Xm → Prop), ds = xs.map en ∧ xs.length ≤ LIM ∧ Wk (wipeD r2 (own.map (·.2))) R ∧ G1 = gg s0 ∧ ((Out.compS f xs [] s0).bind kk).sat Q0 E ∧
      (∀ s x (Q' : Option β × σT → Prop), (f s x).sat Q' E → Blk X scope fun Y => WG Y tg (en x) R (gg s) (own.map (·.2)) fun r3 G3 => match ifs with
        | [] => Blk X scope fun Y => WE Y elt r3 G3 fun z r4 G4 => ∃ y s' r5, fz r4 z = some (ey y, r5) ∧ Wk (wipeD r5 (own.map (·.2))) R ∧ G4 = gg s' ∧ Q' (some y, s')
        | [c] => Blk X scope fun Y => WT Y c r3 G3 fun b r4 G4 => (b = true → Blk X scope fun Y => WE Y elt r4 G4 fun z r5 G5 => ∃ y s' r6, fz r5 z = some (ey y, r6) ∧ Wk (wipeD r6 (own.map (·.2))) R ∧ G5 = gg s' ∧ Q' (some y, s')) ∧ (b = false → ∃ s', Wk (wipeD r4 (own.map (·.2))) R ∧ G4 = gg s' ∧ Q' (none, s'))
        | _ => False) ∧ ∀ ys s', (kk (ys, s')).sat Q0 E → Q (.fr (.lst (ys.map ey))) R (gg s')) : LcPre X scope tg e elt ifs (own.map (·.2)) r G (atR Q) :=
  h.mono fun ds r2 G1 ⟨xs, s0, f, kk, Q0, E, hd, hl, w, hg, h0, hb, hq⟩ => by
    subst hd hg
    refine ⟨fun k acc r3 G3 => ∃ ys s, Wk r3 R ∧ G3 = gg s ∧ acc = ys.map ey ∧ ys.length ≤ k ∧ ((Out.compS f (xs.drop k) ys s).bind kk).sat Q0 E, ⟨[], s0, w, rfl, rfl, Nat.le_refl _, h0⟩, fun k d acc r3 G3 hd ⟨ys, s, w3, hG, ha, hly, hq3⟩ => ?_, fun acc r3 G3 ⟨ys, s, w3, hG, ha, hly, hq3⟩ => ?_⟩
    · subst hG ha
      obtain ⟨x, hx, rfl⟩ := map_at hd
      have hlt : k < xs.length := (List.getElem?_eq_some_iff.mp hx).1
      rw [drop_at hx] at hq3
      have st := hb s x _ (compS_step hq3)
      have lim : (ys.map ey).length < LIM := by rw [List.length_map]; omega
      intro Y hY
      refine WG.mono (WG.weak w3 (st Y hY)) fun r4 G4 q' => ?_
      match ifs, q' with
      | [], q' =>
        refine fun Y hY => (q' Y hY).mono fun zz r5 G5 ⟨y, s', r6, m1, m2, m3, m4⟩ => ⟨ey y, r6, m1, lim, ys ++ [y], s', m2, m3, by rw [List.map_append]; rfl, by rw [List.length_append]; exact Nat.succ_le_succ hly, m4⟩
      | [c], q' =>
        refine fun Y hY => (q' Y hY).mono fun b r5 G5 ⟨q1, q2⟩ => ⟨fun hb1 Y hY => ?_, fun hb0 => ?_⟩
        · exact (q1 hb1 Y hY).mono fun zz r6 G6 ⟨y, s', r7, m1, m2, m3, m4⟩ => ⟨ey y, r7, m1, lim, ys ++ [y], s', m2, m3, by rw [List.map_append]; rfl, by rw [List.length_append]; exact Nat.succ_le_succ hly, m4⟩
        · obtain ⟨s', m2, m3, m4⟩ := q2 hb0
          exact ⟨ys, s', m2, m3, rfl, Nat.le_succ_of_le hly, m4⟩
      | _ :: _ :: _, q' => exact q'.elim
    · subst hG ha
      rw [List.length_map, List.drop_length] at hq3
      exact ⟨R, w3, (fun i z => by cases z), hq ys s hq3⟩
end
open Out (Rt)
section
variable {κ ν : Type} [DecidableEq κ]
theorem dmk_snoc (kvs : List (κ × ν)) (p : κ × ν) : dmk (kvs ++ [p]) = dput (dmk kvs) p.1 p.2 := by unfold dmk; rw [List.foldl_append]; rfl
theorem dmk_len : ∀ (kvs : List (κ × ν)), (dmk kvs).length ≤ kvs.length := by
  have key : ∀ (kvs acc : List (κ × ν)), (kvs.foldl (fun acc p => dput acc p.1 p.2) acc).length ≤ acc.length + kvs.length := by
    intro kvs
    induction kvs with
    | nil => intro acc; exact Nat.le_refl _
    | cons p kvs ih =>
      intro acc
      rw [List.foldl_cons, List.length_cons]
      have h1 := ih (dput acc p.1 p.2)
      have h2 := dput_len acc p.1 p.2
      omega
  intro kvs
  have := key kvs []
  rw [List.length_nil, Nat.zero_add] at this
  exact this
end
section
variable {X : Cy} {e a b c o tg kx vx elt i : Expr} {es ifs : List Expr} {st : Stmt} {sts rest body orelse : List Stmt} {r : Env2} {G : GD} {pos tpos apos cpos p0 : Pos} {D0 : EndsD} {α β γ σT ρ : Type}
/-- {k: v for tg in e}, nothing that may fail -/
theorem we_dc0 {κ ν : Type} [DecidableEq κ] {scope : Scope} (own : List (Str × Nat)) (R : Env2) {en : α → D} (ek : κ → Key) (ev : ν → D) (hk : KInj ek) (g : α → κ × ν) {Q : Res → Env2 → GD → Prop} (hc : X.calm = true) (hN : X.N.Nodup) (ok : BlkOk X.N X.env.scope scope own)
    (h : WI X tg e r G fun ds r2 G1 => ∃ xs : List α, ds = xs.map en ∧ xs.length ≤ LIM ∧ Wk (wipeD r2 (own.map (·.2))) R ∧
      (∀ x, Blk X scope fun Y => WG Y tg (en x) R G1 (own.map (·.2)) fun r3 G3 => Blk X scope fun Y => WE Y kx r3 G3 fun z r4 G4 => z = .sh (kD (ek (g x).1)) ∧ Blk X scope fun Y => WE Y vx r4 G4 (Made R G1 (own.map (·.2)) (ev (g x).2))) ∧ Q (.fr (eD ek ev (dmk (xs.map g)))) R G1)
    (hs : ∀ x, foldedSetIterable e X.env x = pure x := by intro _; rfl) : WE X (.DictComp kx vx [⟨tg, e, [], 0⟩] scope pos) r G Q :=
  WE.wkp (we_dc own hc hN ok (h.mono fun ds r2 G1 ⟨xs, hd, hl, w, hb, q⟩ => by
    subst hd
    refine ⟨fun k acc r3 G3 => Wk r3 R ∧ G3 = G1 ∧ acc = eDl ek ev (dmk ((xs.take k).map g)), ⟨w, rfl, rfl⟩, fun k d acc r3 G3 hd ⟨w3, hG, ha⟩ => ?_, fun acc r3 G3 ⟨w3, hG, ha⟩ => ?_⟩
    · subst hG ha
      obtain ⟨x, hx, rfl⟩ := map_at hd
      have hlt : k < xs.length := (List.getElem?_eq_some_iff.mp hx).1
      intro Y hY
      refine WG.mono (WG.weak w3 (hb x Y hY)) fun r4 G4 q' Y hY => (q' Y hY).mono fun z r5 G5 ⟨hz, q2⟩ => ⟨ek (g x).1, hz, fun Y hY => (q2 Y hY).mono fun zz r6 G6 ⟨r7, m1, m2, m3⟩ => ⟨ev (g x).2, r7, m1, ?_, m2, m3, ?_⟩⟩
      · unfold eDl
        rw [List.length_map]
        have h1 := dmk_len ((xs.take k).map g)
        rw [List.length_map, List.length_take] at h1
        omega
      · rw [putD_eDl hk, List.take_add_one, hx, List.map_append]
        show _ = eDl ek ev (dmk (List.map g (List.take k xs) ++ [g x]))
        rw [dmk_snoc]
    · subst hG ha
      rw [List.length_map, List.take_length, eD_dicD]
      exact ⟨R, w3, (fun i z => by cases z), q⟩) hs)
theorem we_ifP {en : α → D} {va vb : α} {Q : Res → Env2 → GD → Prop} (h : WT X c r G fun d r1 G1 => (d = true → WE X a r1 G1 fun x r2 G2 => x = .sh (en va) ∧ r2 = r1 ∧ G2 = G1) ∧ (d = false → WE X b r1 G1 fun x r2 G2 => x = .sh (en vb) ∧ r2 = r1 ∧ G2 = G1) ∧ Q (.sh (en (if d = true then va else vb))) r1 G1) : WE X (.IfExp c a b pos) r G Q :=
  we_ifExp (h.mono fun d r1 G1 ⟨h1, h2, q⟩ => ⟨fun hd => (h1 hd).mono fun x r2 G2 ⟨m1, m2, m3⟩ => by subst m1 m2 m3; rw [if_pos hd] at q; exact q, fun hd => (h2 hd).mono fun x r2 G2 ⟨m1, m2, m3⟩ => by subst m1 m2 m3; rw [if_neg (by rw [hd]; exact Bool.false_ne_true)] at q; exact q⟩)
/-- a test as a value, joined -/
theorem we_andP {c2 : Bool} {Q : Res → Env2 → GD → Prop} (h : WE X a r G fun x r1 G1 => ∃ c1, x = .sh (.bl c1) ∧ (c1 = true → WE X (.BoolOp .And (b :: es) pos) r1 G1 fun y r2 G2 => y = .sh (.bl c2) ∧ r2 = r1 ∧ G2 = G1) ∧ Q (.sh (.bl (c1 && c2))) r1 G1) : WE X (.BoolOp .And (a :: b :: es) pos) r G Q :=
  we_and (h.mono fun x r1 G1 ⟨c1, hx, h1, q⟩ => ⟨c1, hx, fun hc => (h1 hc).mono fun y r2 G2 ⟨m1, m2, m3⟩ => by subst m1 m2 m3; rw [hc, Bool.true_and] at q; exact q, fun hc => by rw [hc, Bool.false_and] at q; exact q⟩)
/-- the same of tests -/
theorem WW.monoT {Q Q' : Bool → Env2 → GD → Prop} (h : WW X e r G Q) (k : ∀ x r' G', Q x r' G' → Q' x r' G') : WW X e r G Q' := fun F0 T F H σ lk S w pins s I =>
  wpAny_mono (h F0 T F H σ lk S w pins s I) (fun _ _ ⟨H', I', r', G', F', a, b, q⟩ => ⟨H', I', r', G', F', a, b, k _ _ _ q⟩) fun _ _ x => x
end
section
variable {α β γ : Type}
/-- an item by a Python index -/
def pix (xs : List α) (i : Int) : Option α := (ixN xs.length i).bind fun j => xs[j]?
theorem atD_map {f : α → D} {xs : List α} {i : Int} {x : α} (h : pix xs i = some x) : atD (xs.map f) i = some (f x) := by
  unfold pix at h
  unfold atD
  rw [List.length_map]
  cases e : ixN xs.length i with
  | none => rw [e] at h; cases h
  | some j =>
    rw [e] at h
    show (xs.map f)[j]? = some (f x)
    rw [List.getElem?_map, show xs[j]? = some x from h]; rfl
/-- a slice by Python bounds -/
def pcut (xs : List α) (lo hi : Option Int) : List α := (xs.drop (HT.sIx xs.length 0 lo)).take (HT.sIx xs.length xs.length hi - HT.sIx xs.length 0 lo)
theorem cutD_map {f : α → D} (xs : List α) (lo hi : Option Int) : cutD (xs.map f) lo hi = (pcut xs lo hi).map f := by
  unfold cutD pcut
  rw [List.length_map, List.map_take, List.map_drop]
theorem pcut_from (xs : List α) (j : Nat) : pcut xs (some (j : Int)) none = xs.drop j := by
  unfold pcut
  rw [HT.sIx_nat, HT.sIx_none]
  by_cases h : j ≤ xs.length
  · rw [Nat.min_eq_left h, List.take_of_length_le (by rw [List.length_drop]; exact Nat.le_refl _)]
  · rw [Nat.min_eq_right (by omega), List.drop_length, List.drop_eq_nil_of_le (by omega)]
    simp
/-- codes whose equality is that of the values -/
structure EqC (en : α → D) (n : Nat) : Prop where
  ok : ∀ a, okD n (en a)
  eq : ∀ a b, eqD (en a) (en b) = true ↔ a = b
theorem EqC.dec [DecidableEq α] {en : α → D} {n : Nat} (h : EqC en n) (a b : α) : eqD (en a) (en b) = decide (a = b) := by
  by_cases e : a = b
  · rw [decide_eq_true e]; exact (h.eq a b).mpr e
  · rw [decide_eq_false e]
    cases q : eqD (en a) (en b) with
    | false => rfl
    | true => exact absurd ((h.eq a b).mp q) e
theorem eqc_int : EqC eI 0 := ⟨fun _ => trivial, fun a b => by
  show PyData.eqv (.int a) (.int b) = true ↔ a = b
  exact beq_iff_eq⟩
theorem okD_up : ∀ {n : Nat} {d : D}, okD n d → okD (n + 1) d := by
  intro n
  induction n with
  | zero => intro d h; cases d <;> first | exact h | exact h.elim | trivial
  | succ n ih =>
    intro d h
    cases d <;> first | exact h.elim | trivial | (intro x hx; exact ih (h x hx))
end
open Out (Rt)
abbrev S := { x : Str // PyData.strOk x = true }
abbrev eZ : S → D := fun s => .str s.1
abbrev kZ : S → Key := fun s => Sum.inr s.1
theorem kZ_inj : KInj kZ := fun a b h => Subtype.ext (Sum.inr.inj h)
theorem eqc_str : EqC eZ 0 := ⟨fun a => a.2, fun a b => by
  show PyData.eqv (.str a.1) (.str b.1) = true ↔ a = b
  rw [show PyData.eqv (.str a.1) (.str b.1) = (a.1 == b.1) from rfl, beq_iff_eq]
  exact ⟨Subtype.ext, congrArg _⟩⟩
theorem eqv_all {α : Type} {f : α → D} {n : Nat} (h : EqC f n) : ∀ xs ys : List α, PyData.eqvAll (toPs (xs.map f)) (toPs (ys.map f)) = true ↔ xs = ys
  | [], [] => by simp [toPs, PyData.eqvAll]
  | [], y :: ys => by simp [toPs, PyData.eqvAll]
  | x :: xs, [] => by simp [toPs, PyData.eqvAll]
  | x :: xs, y :: ys => by
    show (PyData.eqv (toP (f x)) (toP (f y)) && PyData.eqvAll (toPs (xs.map f)) (toPs (ys.map f))) = true ↔ _
    rw [Bool.and_eq_true, eqv_all h xs ys, show PyData.eqv (toP (f x)) (toP (f y)) = true ↔ x = y from h.eq x y, List.cons.injEq]
theorem eqc_lst {α : Type} {f : α → D} {n : Nat} (h : EqC f n) : EqC (eL f) (n + 1) := ⟨fun xs d hd => by
  obtain ⟨x, _, rfl⟩ := List.mem_map.mp hd
  exact h.ok x, fun a b => eqv_all h a b⟩
theorem okD_mono {n m : Nat} {d : D} (h : okD n d) (hm : n ≤ m) : okD m d := by
  induction hm with
  | refl => exact h
  | step _ ih => exact okD_up ih
theorem EqC.up {α : Type} {f : α → D} {n m : Nat} (h : EqC f n) (hm : n ≤ m) : EqC f m := ⟨fun a => okD_mono (h.ok a) hm, h.eq⟩
theorem eqc_pair {α β : Type} {f : α → D} {g : β → D} {n : Nat} (h : EqC f n) (k : EqC g n) : EqC (eP f g) (n + 1) := ⟨fun p d hd => by
  rcases List.mem_cons.mp hd with rfl | hd
  · exact h.ok _
  · rcases List.mem_cons.mp hd with rfl | hd
    · exact k.ok _
    · exact absurd hd List.not_mem_nil, fun a b => by
  show (PyData.eqv (toP (f a.1)) (toP (f b.1)) && (PyData.eqv (toP (g a.2)) (toP (g b.2)) && true)) = true ↔ _
  rw [Bool.and_true, Bool.and_eq_true, show PyData.eqv (toP (f a.1)) (toP (f b.1)) = true ↔ _ from h.eq _ _, show PyData.eqv (toP (g a.2)) (toP (g b.2)) = true ↔ _ from k.eq _ _, Prod.ext_iff]⟩
section
variable {X : Cy} {e a b c o tg kx vx elt i : Expr} {es ifs : List Expr} {st : Stmt} {sts rest body orelse : List Stmt} {r : Env2} {G : GD} {pos tpos apos cpos p0 : Pos} {D0 : EndsD} {α β γ σT ρ : Type}
theorem opw_eqC [DecidableEq α] {en : α → D} {n : Nat} (h : EqC en n) (hu : X.A.units + 64 < cLine) (x y : α) {Q : Res → Prop} (q : Q (.sh (.bl (decide (x = y))))) (hn : n ≤ 64 := by decide) : OpW X (compareOp .Eq) (en x) (en y) Q :=
  opw_eqD hu (h.ok x) (h.ok y) hn (by rw [h.dec]; exact q)
theorem opw_neC [DecidableEq α] {en : α → D} {n : Nat} (h : EqC en n) (hu : X.A.units + 64 < cLine) (x y : α) {Q : Res → Prop} (q : Q (.sh (.bl (!decide (x = y))))) (hn : n ≤ 64 := by decide) : OpW X (compareOp .NotEq) (en x) (en y) Q :=
  opw_neD hu (h.ok x) (h.ok y) hn (by rw [h.dec]; exact q)
theorem t_cat {f : α → D} (xs ys : List α) {Q : Res → Prop} (hl : xs.length + ys.length ≤ LIM) (q : Q (.fr (.lst ((xs ++ ys).map f)))) : OpW X (binaryOp .Add) (.lst (xs.map f)) (.lst (ys.map f)) Q :=
  opw_cat (by rw [List.length_map, List.length_map]; exact hl) (by rw [List.map_append] at q; exact q)
theorem t_len {f : α → D} (xs : List α) {Q : Res → Prop} (q : Q (.sh (.int (xs.length : Nat)))) : CallW1 X (.builtin "len") (.lst (xs.map f)) Q := c_len (by rw [List.length_map]; exact q)
theorem t_lenT {f : α → D} (xs : List α) {Q : Res → Prop} (q : Q (.sh (.int (xs.length : Nat)))) : CallW1 X (.builtin "len") (.tup (xs.map f)) Q := c_lenT (by rw [List.length_map]; exact q)
theorem t_lenD {κ ν : Type} {k : κ → Key} {f : ν → D} (kvs : List (κ × ν)) {Q : Res → Prop} (q : Q (.sh (.int (kvs.length : Nat)))) : CallW1 X (.builtin "len") (eD k f kvs) Q := by
  have := c_lenD (X := X) (Q := Q) (acc := eDl k f kvs) (by unfold eDl; rw [List.length_map]; exact q)
  rw [eD_dicD] at this
  exact this
theorem t_ix {f : α → D} {xs : List α} {i : Int} {x : α} {Q : Res → Prop} (h : pix xs i = some x) (q : Q (.sh (f x))) : IxW X (.lst (xs.map f)) (.int i) Q := ixw_lst (atD_map h) q
theorem t_ixT {f : α → D} {xs : List α} {i : Int} {x : α} {Q : Res → Prop} (h : pix xs i = some x) (q : Q (.sh (f x))) : IxW X (.tup (xs.map f)) (.int i) Q := ixw_tup (atD_map h) q
theorem t_slT {f : α → D} {xs : List α} {lo hi : Option Int} {Q : Res → Prop} (q : Q (.sh (.tup ((pcut xs lo hi).map f)))) : SlW X (.tup (xs.map f)) lo hi Q := slw_tup (by rw [cutD_map]; exact q)
/-- xs.append(e), xs an own slot -/
theorem we_appendT {f : α → D} {Q : Res → Env2 → GD → Prop}
    (h : WE X o r G fun x r1 G1 => ∃ i xs0, x = .pk i ∧ r1[i]? = some (.own (.lst (List.map f xs0))) ∧ WE X e r1 G1 fun y r2 G2 => ∃ z r3 xs, fz r2 y = some (f z, r3) ∧ r3[i]? = some (.own (.lst (List.map f xs))) ∧ xs.length < LIM ∧ Q (.sh .non) (r3.set i (.own (.lst ((xs ++ [z]).map f)))) G2)
    (hbase : attributeBase o "append" X.env (eval o X.env) = eval o X.env := by rfl)
    (hfew : ((backTo cpos (starEach [e] X.env)).all (fun x => !x.1) && (backToKw cpos (keywordEach [] X.env)).all (fun x => x.1.isSome) && decide (([e] : List Expr).length + ([] : List Keyword).length + (if ([] : List Keyword).isEmpty then 0 else 1) < 30)) = true := by rfl)
    (hline : (apos.endLine == cpos.line) = true := by rfl) (hs : starEach [e] X.env = (false, eval e X.env) :: starEach [] X.env := by rfl) (hplain : (backTo cpos (starEach [] X.env)).any (·.1) = false := by rfl) :
    WE X (.Call (.Attribute o "append" apos) [e] [] cpos) r G Q :=
  we_append (h.mono fun x r1 G1 ⟨i, xs0, h1, h2, h3⟩ => ⟨i, _, h1, h2, h3.mono fun y r2 G2 ⟨z, r3, xs, k1, k2, k3, k4⟩ => ⟨f z, r3, _, k1, k2, by rw [List.length_map]; exact k3, by rw [List.map_append] at k4; exact k4⟩⟩) hbase hfew hline hs hplain
theorem we_extendT {f : α → D} {Q : Res → Env2 → GD → Prop}
    (h : WE X o r G fun x r1 G1 => ∃ i xs0, x = .pk i ∧ r1[i]? = some (.own (.lst (List.map f xs0))) ∧ WE X e r1 G1 fun y r2 G2 => ∃ zs r3 xs, fz r2 y = some (.lst (List.map f zs), r3) ∧ r3[i]? = some (.own (.lst (List.map f xs))) ∧ xs.length + zs.length ≤ LIM ∧ Q (.sh .non) (r3.set i (.own (.lst ((xs ++ zs).map f)))) G2)
    (hbase : attributeBase o "extend" X.env (eval o X.env) = eval o X.env := by rfl)
    (hfew : ((backTo cpos (starEach [e] X.env)).all (fun x => !x.1) && (backToKw cpos (keywordEach [] X.env)).all (fun x => x.1.isSome) && decide (([e] : List Expr).length + ([] : List Keyword).length + (if ([] : List Keyword).isEmpty then 0 else 1) < 30)) = true := by rfl)
    (hline : (apos.endLine == cpos.line) = true := by rfl) (hs : starEach [e] X.env = (false, eval e X.env) :: starEach [] X.env := by rfl) (hplain : (backTo cpos (starEach [] X.env)).any (·.1) = false := by rfl) :
    WE X (.Call (.Attribute o "extend" apos) [e] [] cpos) r G Q :=
  we_extend (h.mono fun x r1 G1 ⟨i, xs0, h1, h2, h3⟩ => ⟨i, _, h1, h2, h3.mono fun y r2 G2 ⟨zs, r3, xs, k1, k2, k3, k4⟩ => ⟨_, r3, _, k1, k2, by rw [List.length_map, List.length_map]; exact k3, by rw [List.map_append] at k4; exact k4⟩⟩) hbase hfew hline hs hplain
/-- xs.pop(i) -/
theorem we_popT {f : α → D} {Q : Res → Env2 → GD → Prop}
    (h : WE X o r G fun x r1 G1 => ∃ i xs0, x = .pk i ∧ r1[i]? = some (.own (.lst (List.map f xs0))) ∧ WE X e r1 G1 fun y r2 G2 => ∃ (j : Int) (xs : List α) (z : α), y = .sh (.int j) ∧ r2[i]? = some (.own (.lst (List.map f xs))) ∧ 0 ≤ j ∧ xs[j.toNat]? = some z ∧ xs.length ≤ LIM ∧ Q (.sh (f z)) (r2.set i (.own (.lst ((xs.eraseIdx j.toNat).map f)))) G2)
    (hbase : attributeBase o "pop" X.env (eval o X.env) = eval o X.env := by rfl)
    (hfew : ((backTo cpos (starEach [e] X.env)).all (fun x => !x.1) && (backToKw cpos (keywordEach [] X.env)).all (fun x => x.1.isSome) && decide (([e] : List Expr).length + ([] : List Keyword).length + (if ([] : List Keyword).isEmpty then 0 else 1) < 30)) = true := by rfl)
    (hline : (apos.endLine == cpos.line) = true := by rfl) (hs : starEach [e] X.env = (false, eval e X.env) :: starEach [] X.env := by rfl) (hplain : (backTo cpos (starEach [] X.env)).any (·.1) = false := by rfl) :
    WE X (.Call (.Attribute o "pop" apos) [e] [] cpos) r G Q :=
  we_popAt (h.mono fun x r1 G1 ⟨i, xs0, h1, h2, h3⟩ => ⟨i, _, h1, h2, h3.mono fun y r2 G2 ⟨j, xs, z, k1, k2, k3, k4, k5, k6⟩ => by
    subst k1
    refine ⟨j.toNat, r2, _, f z, ?_, k2, by rw [List.getElem?_map, k4]; rfl, by rw [List.length_map]; exact k5, by rw [map_erase] at k6; exact k6⟩
    show some (D.int j, r2) = some (D.int ((j.toNat : Nat) : Int), r2)
    rw [Int.toNat_of_nonneg k3]⟩) hbase hfew hline hs hplain
def penumF (k : Nat) : List α → List (Int × α)
  | [] => []
  | x :: xs => ((k : Int), x) :: penumF (k + 1) xs
/-- enumerate -/
def penum (xs : List α) : List (Int × α) := penumF 0 xs
theorem enum_map {f : α → D} : ∀ (xs : List α) (k : Nat), enumD k (xs.map f) = (penumF k xs).map (eP eI f)
  | [], k => rfl
  | x :: xs, k => by
    rw [List.map_cons]
    show D.tup [.int (k : Int), f x] :: enumD (k + 1) (xs.map f) = _
    rw [enum_map xs (k + 1)]; rfl
theorem penumF_len : ∀ (xs : List α) (k : Nat), (penumF k xs).length = xs.length
  | [], _ => rfl
  | x :: xs, k => by unfold penumF; rw [List.length_cons, List.length_cons, penumF_len xs]
section
variable {elts : List Expr} {kk : Nat}
theorem ti_lst {f : α → D} {Q : List D → Env2 → GD → Prop} (h : WE X e r G fun x r1 G1 => ∃ xs r2, fz r1 x = some (.lst (List.map f xs), r2) ∧ (xs.length ≤ LIM → Q (xs.map f) r2 G1)) : WI X tg e r G Q :=
  wi_lst (h.mono fun x r1 G1 ⟨xs, r2, h1, h2⟩ => ⟨_, r2, h1, fun hl => h2 (by rw [List.length_map] at hl; exact hl)⟩)
theorem ti_tup {f : α → D} {Q : List D → Env2 → GD → Prop} (h : WE X e r G fun x r1 G1 => ∃ xs r2, fz r1 x = some (.tup (List.map f xs), r2) ∧ (xs.length ≤ LIM → Q (xs.map f) r2 G1)) : WI X tg e r G Q :=
  wi_tup (h.mono fun x r1 G1 ⟨xs, r2, h1, h2⟩ => ⟨_, r2, h1, fun hl => h2 (by rw [List.length_map] at hl; exact hl)⟩)
theorem ti_enumT {f : α → D} {Q : List D → Env2 → GD → Prop} (hg : Gl X "enumerate") (hm : X.mg "enumerate" = none) (h : WE X a r G fun x r1 G1 => ∃ xs r2, fz r1 x = some (.tup (List.map f xs), r2) ∧ ((penum xs).length ≤ LIM → Q ((penum xs).map (eP eI f)) r2 G1)) (hst : starEach [a] X.env = [(false, eval a X.env)] := by rfl) :
    WI X (.Tuple elts kk tpos) (.Call (.Name "enumerate" p0) [a] [] pos) r G Q :=
  wi_enumT hg hm (h.mono fun x r1 G1 ⟨xs, r2, h1, h2⟩ => ⟨_, r2, h1, fun hl => by rw [enum_map]; exact h2 (by unfold penum; rw [penumF_len]; rw [List.length_map] at hl; exact hl)⟩) hst
theorem ti_items {κ ν : Type} {k : κ → Key} {f : ν → D} {Q : List D → Env2 → GD → Prop} (h : WE X e r G fun x r1 G1 => ∃ kvs r2, fz r1 x = some (eD k f kvs, r2) ∧ (kvs.length ≤ LIM → Q (kvs.map (eP (fun x => kD (k x)) f)) r2 G1))
    (hbase : attributeBase e "items" X.env (eval e X.env) = eval e X.env := by rfl) (hline : (apos.endLine == cpos.line) = true := by rfl) : WI X (.Tuple elts kk tpos) (.Call (.Attribute e "items" apos) [] [] cpos) r G Q :=
  wi_items (h.mono fun x r1 G1 ⟨kvs, r2, h1, h2⟩ => ⟨_, _, r2, h1, fun hl => by
    rw [List.length_map] at hl
    rw [zip_eDl]
    unfold eDl
    rw [List.map_map]
    exact h2 hl⟩) hbase hline
end
/-- sorted(d), the keys ints -/
theorem t_sortedD {ν : Type} {f : ν → D} {Q : Res → Prop} (kvs : List (Int × ν)) (hcalm : X.calm = true) (q : Q (.fr (.lst ((isort (kvs.map (·.1))).map D.int)))) : CallW1 X (.builtin "sorted") (eD kI f kvs) Q := by
  have := c_sortedD (X := X) (ks := kvs.map (·.1)) (ds := kvs.map fun p => f p.2) hcalm q
  rw [List.map_map] at this
  exact this
end
open Out (Rt)
/-- a text of the mirrors -/
abbrev zs (x : Str) (h : PyData.strOk x = true := by decide) : S := ⟨x, h⟩
section
variable {X : Cy} {e a b c o tg kx vx elt i : Expr} {es ifs : List Expr} {st : Stmt} {sts rest body orelse : List Stmt} {r : Env2} {G : GD} {pos tpos apos cpos p0 : Pos} {D0 : EndsD} {α β γ σT ρ : Type}
/-- [elt for tg in e if ..], by a mirror with a state -/
theorem lcS_preP {scope : Scope} (own : List (Str × Nat)) (R : Env2) (gg : σT → GD) {en : α → D} (ey : β → D) {Q : Res → Env2 → GD → Prop}
    (h : WI X tg e r G fun ds r2 G1 => ∃ (xs : List α) (s0 : σT) (f : σT → α → Out (Option β × σT)) (kk : List β × σT → Out γ) (Q0 : γ → Prop) (E : Xm → Prop), ds = xs.map en ∧ xs.length ≤ LIM ∧ Wk (wipeD r2 (own.map (·.2))) R ∧ G1 = gg s0 ∧ ((Out.compS f xs [] s0).bind kk).sat Q0 E ∧
      (∀ s x (Q' : Option β × σT → Prop), (f s x).sat Q' E → Blk X scope fun Y => WG Y tg (en x) R (gg s) (own.map (·.2)) fun r3 G3 => match ifs with
        | [] => Blk X scope fun Y => WE Y elt r3 G3 fun z r4 G4 => ∃ y s' r5, fz r4 z = some (ey y, r5) ∧ Wk (wipeD r5 (own.map (·.2))) R ∧ G4 = gg s' ∧ Q' (some y, s')
        | [c] => Blk X scope fun Y => WT Y c r3 G3 fun b r4 G4 => (b = true → Blk X scope fun Y => WE Y elt r4 G4 fun z r5 G5 => ∃ y s' r6, fz r5 z = some (ey y, r6) ∧ Wk (wipeD r6 (own.map (·.2))) R ∧ G5 = gg s' ∧ Q' (some y, s')) ∧ (b = false → ∃ s', Wk (wipeD r4 (own.map (·.2))) R ∧ G4 = gg s' ∧ Q' (none, s'))
        | _ => False) ∧ ∀ p : List β × σT, (kk p).sat Q0 E → Q (.fr (.lst (p.1.map ey))) R (gg p.2)) : LcPre X scope tg e elt ifs (own.map (·.2)) r G (atR Q) :=
  lcS_pre own R gg ey (h.mono fun ds r2 G1 ⟨xs, s0, f, kk, Q0, E, h1, h2, h3, h4, h5, h6, h7⟩ => ⟨xs, s0, f, kk, Q0, E, h1, h2, h3, h4, h5, h6, fun ys s' q => h7 (ys, s') q⟩)
/-- dict(pairs) -/
theorem fold_putD {κ ν : Type} [DecidableEq κ] {k : κ → Key} {f : ν → D} (hk : KInj k) : ∀ (xs acc : List (κ × ν)), (eDl k f xs).foldl (fun acc kv => putD acc kv.1 kv.2) (eDl k f acc) = eDl k f (xs.foldl (fun acc p => dput acc p.1 p.2) acc)
  | [], _ => rfl
  | x :: xs, acc => by
    show (eDl k f xs).foldl _ (putD (eDl k f acc) (k x.1) (f x.2)) = _
    rw [putD_eDl hk, fold_putD hk xs]; rfl
theorem t_dictP {κ ν : Type} [DecidableEq κ] {k : κ → Key} {f : ν → D} (hk : KInj k) (hc : X.calm = true) (xs : List (κ × ν)) {Q : Res → Prop} (q : Q (.fr (eD k f (dmk xs)))) : CallW1 X (.type "dict") (.lst (xs.map (eP (fun x => kD (k x)) f))) Q := by
  have e : (xs.map (eP (fun x => kD (k x)) f)) = (eDl k f xs).map fun kv => .tup [kD kv.1, kv.2] := by
    unfold eDl; rw [List.map_map]; rfl
  rw [e]
  refine c_dictP hc ?_
  have e2 := fold_putD (f := f) hk xs []
  rw [show eDl k f [] = [] from rfl] at e2
  rw [e2, eD_dicD]
  exact q
end
open Out (Rt)
abbrev Tin (G : GD) (H : Hp) (x dx : Addr) : Hp := fun a => if a = x ∨ a = dx then none else Tof G H a
theorem Bas.tin {K : PySem.W.Frag} {F F' H H' : Hp} {G G' : GD} {x dx : Addr} (B : Bas K F (Tof G H) F' G' H') : Bas K F (Tin G H x dx) F' G' H' := by
  refine ⟨B.ff, fun a o h => ?_, B.fh, B.gh, B.fg, fun a o h => ?_, fun a o h => ?_⟩
  · rcases B.ft a o h with z | z
    · exact .inl z
    · right; show (if _ then _ else _) = _; split
      · rfl
      · exact z
  · show (if _ then _ else _) = _
    split
    · rfl
    · exact B.gt a o h
  · have h' : (if a = x ∨ a = dx then none else Tof G H a) = some o := h
    split at h'
    · cases h'
    · exact B.tk a o h'
theorem init_frame {K : PySem.W.Frag} {F H F' H' H2 : Hp} {G G' : GD} {x dx C : Addr} {vs : List (Option V)} (B : Bas K F (Tof G H) F' G' H') (fx : F x = none) (fd : F dx = none) (gx : G x = none) (gd : G dx = none) (hx : H x = some (.ins C dx [])) (hd : H dx = some (.own x)) (hne : dx ≠ x) (e2 : H2 = SlX.slH H' x C dx vs) :
    ∃ F2, Ex F' F2 ∧ Bas K F (Tin G H x dx) F2 G' H2 ∧ SlX.Slt F2 x C dx vs := by
  have tx : Tof G H x = some (.ins C dx []) := by rw [Tof_none gx]; exact hx
  have td : Tof G H dx = some (.own x) := by rw [Tof_none gd]; exact hd
  have fx' : F' x = none := by
    cases e : F' x with
    | none => rfl
    | some u =>
      rcases B.ft x u e with z | z
      · rw [fx] at z; cases z
      · rw [tx] at z; cases z
  have fd' : F' dx = none := by
    cases e : F' dx with
    | none => rfl
    | some u =>
      rcases B.ft dx u e with z | z
      · rw [fd] at z; cases z
      · rw [td] at z; cases z
  have gx' : G' x = none := by
    cases e : G' x with
    | none => rfl
    | some u => have := B.gt x u e; rw [tx] at this; cases this
  have gd' : G' dx = none := by
    cases e : G' dx with
    | none => rfl
    | some u => have := B.gt dx u e; rw [td] at this; cases this
  have h2 : ∀ a, a ≠ x → a ≠ dx → H2 a = H' a := fun a h1 h2 => by rw [e2]; exact SlX.slH_ne h1 h2
  have ef : Ex F' (SlX.slH F' x C dx vs) := fun a o h => by rw [SlX.slH_ne (ne_of_none h fx') (ne_of_none h fd')]; exact h
  have ng : ∀ {a : Addr} {o : D}, G' a = some o → a ≠ x ∧ a ≠ dx := fun {a o} h => ⟨fun z => (by rw [z, gx'] at h; cases h), fun z => (by rw [z, gd'] at h; cases h)⟩
  refine ⟨SlX.slH F' x C dx vs, ef, ⟨fun a o h => ef a o (B.ff a o h), fun a o h => ?_, fun a o h => ?_, fun a o h => ?_, fun a o h => ?_, fun a o h => ?_, fun a o h => ?_⟩, SlX.slH_slt hne⟩
  · by_cases h1 : a = x
    · right; show (if _ then _ else _) = _; rw [if_pos (.inl h1)]
    · by_cases h2 : a = dx
      · right; show (if _ then _ else _) = _; rw [if_pos (.inr h2)]
      · rw [SlX.slH_ne h1 h2] at h
        rcases B.ft a o h with z | z
        · exact .inl z
        · right; show (if _ then _ else _) = _; rw [if_neg (by simp [h1, h2])]; exact z
  · by_cases h1 : a = x
    · subst h1; rw [e2]; unfold SlX.slH at h ⊢; rw [upd_same] at h ⊢; exact h
    · by_cases h3 : a = dx
      · subst h3; rw [e2]; unfold SlX.slH at h ⊢; rw [upd_ne h1, upd_same] at h ⊢; exact h
      · rw [SlX.slH_ne h1 h3] at h; rw [h2 a h1 h3]; exact B.fh a o h
  · obtain ⟨n1, n2⟩ := ng h
    exact (B.gh a o h).mono ef fun o q => by rw [h2 a n1 n2]; exact q
  · obtain ⟨n1, n2⟩ := ng h
    rw [SlX.slH_ne n1 n2]; exact B.fg a o h
  · show (if _ then _ else _) = _
    split
    · rfl
    · exact B.gt a o h
  · have h' : (if a = x ∨ a = dx then none else Tof G H a) = some o := h
    by_cases h1 : a = x ∨ a = dx
    · rw [if_pos h1] at h'; cases h'
    · rw [if_neg h1] at h'
      rw [h2 a (fun z => h1 (.inl z)) (fun z => h1 (.inr z))]; exact B.tk a o h'
section
variable {P : Program} {w : World} {K : PySem.W.Frag} {mg : Str → Option Value} {base : Heap}
/-- .. two slots, stored from names at the end: the second slot first -/
theorem init2r_ok {x qual : Str} {st : Stmt} {g : Addr} {fd : FuncData} {N ps : List Str} {k : Nat} {C q0 q1 : Addr} {f0 f1 : Str} {f : FSpI} (Fo : Fun K x qual st g fd) (S : FnScope N ps (defScope st)) (c : SlX.SCls K C) (t0 : SlX.Slot1 K C f0 q0 1) (t1 : SlX.Slot1 K C f1 q1 0)
    (len : ∀ ds G post px, f ds G post px → ds.length + 1 = ps.length)
    (pre : List Stmt) (s0 s1 : Stmt) (i0 i1 : Nat) (hb : defBody st = pre ++ [s0, s1])
    (hbody : ∀ (cdv : Value) (A : Around) (outer : List Env) (s : Shared) (H : Hp) (E : XK) (F T : Hp), Room k (A.deeper (envOfC qual (defScope st) s.heap.objs.size g cdv)) → ∀ (px : Exn → GD → Prop),
      PS (cyOf P w K mg base N qual (defScope st) g cdv A outer s H E F T px).toCx s0 (SlX.sSl K (tVar 0) (tVar i0) f0) ∧ PS (cyOf P w K mg base N qual (defScope st) g cdv A outer s H E F T px).toCx s1 (SlX.sSl K (tVar 0) (tVar i1) f1) ∧
      ∀ (a : Addr) (ds : List D) (G : GD) (post : List D → GD → Prop), f ds G post px → (cyOf P w K mg base N qual (defScope st) g cdv A outer s H E F T px).Tk → PassesOwn (model P w) (cyOf P w K mg base N qual (defScope st) g cdv A outer s H E F T px).A (cyOf P w K mg base N qual (defScope st) g cdv A outer s H E F T px).env (cyOf P w K mg base N qual (defScope st) g cdv A outer s H E F T px).xe →
      WB (cyOf P w K mg base N qual (defScope st) g cdv A outer s H E F T px) pre (startD N (.adr a :: ds)) G { nx := fun r G' => r[0]? = some (Sl.sh (.adr a)) ∧ ∃ d0 d1, r[i0]? = some (Sl.sh d0) ∧ r[i1]? = some (Sl.sh d1) ∧ post [d1, d0] G', rt := fun _ _ => False }) :
    FnOk P w K mg base (L2.CX P w) (k + 1) g fd ps (spI K C f) := by
  refine Fo.okX S (fun vs H Q E h => ?_) (fun cdv A outer s H vs Q E hr h => ?_)
  · obtain ⟨a, dx, us, F, G, ds, post, px, rfl, _, _, _, _, _, _, _, _, _, _, rp, hf, _⟩ := h
    rw [List.length_cons, rp.length]; exact len ds G post px hf
  · obtain ⟨a, dx, us, F, G, ds, post, px, rfl, hx, hd, hne, fx, fdx, gx, gdx, e1, e2, e3, rp, hf, hq, hxn⟩ := h
    refine ⟨RunB _ (defBody st), pbR, ?_⟩
    obtain ⟨p0, p1, hW⟩ := hbody cdv A outer s H E F (Tof G H) hr px
    have hl : (D.adr a :: ds).length ≤ N.length := by
      rw [List.length_cons, len ds G post px hf]
      have := congrArg List.length S.pre
      rw [List.length_take] at this
      omega
    rw [hb]
    have S0 := sta_start (N := N) (ds := .adr a :: ds) (vs := .ref a :: us) hl e1 e2 e3 ⟨_, _, rfl, rfl, rp⟩
    have tk : (cyOf P w K mg base N qual (defScope st) g cdv A outer s H E F (Tof G H) px).Tk := (takes_of (E := E) rfl rfl rfl rfl).imp fun cls d σ H' ⟨r, G', F', x, S', ex, q⟩ => hxn x cls d G' H' F' q S'.bas.tin ex
    have go := hW a ds G post hf tk (passes_of rfl) F (Tof G H) F H (L2.start N (.ref a :: us)) ⟨Ex.refl _, Ex.refl _, fun _ _ z => .inl z⟩ S0
    refine runB_then (X := cyOf P w K mg base N qual (defScope st) g cdv A outer s H E F (Tof G H) px) (go.mono (fun σ' H' ⟨r', G', F', S', h0, d0, d1, h1, h2, hy⟩ => ?_) (fun v H' ⟨x, G', F', B, rt, q⟩ => q.elim) (fun _ _ ⟨_, _, _, _, q⟩ => q) (fun _ _ ⟨_, _, _, _, q⟩ => q))
    obtain ⟨va, a1, a2⟩ := S'.sl 0 _ h0
    obtain ⟨v0, b1, b2⟩ := S'.sl i0 _ h1
    obtain ⟨v1, c1, c2⟩ := S'.sl i1 _ h2
    cases (show va = .ref a from a2)
    have tx : H' a = some (.ins C dx []) := S'.bas.tk a _ (by rw [Tof_none gx]; exact hx)
    have hs0 : SlX.Slt H' a C dx [] := .inl ⟨tx, rfl⟩
    have two : SlX.putS 0 v1 (SlX.putS 1 v0 []) = [some v1, some v0] := rfl
    refine RunB.of (pss_cons p0 (pss_cons p1 pss_nil)) ⟨v0, b1, .ref a, a1, a, C, dx, q0, [], 1, rfl, hs0, c, t0, v1, c1, .ref a, a1, a, C, dx, q1, _, 0, rfl, SlX.slH_slt hne, c, t1, ?_⟩
    rw [SlX.slH_twice hne, two]
    obtain ⟨F2, f1, f2, f3⟩ := init_frame (vs := [some v1, some v0]) S'.bas fx fdx gx gdx hx hd hne rfl
    exact hq _ G' _ F2 hy f2 ⟨a, dx, [v1, v0], rfl, f3, v1, [v0], rfl, Rep.mono f1 _ _ c2, .one (Rep.mono f1 _ _ b2)⟩
/-- .. one slot, stored at the end -/
theorem init1_ok {x qual : Str} {st : Stmt} {g : Addr} {fd : FuncData} {N ps : List Str} {k : Nat} {C q0 : Addr} {f0 : Str} {f : FSpI} (Fo : Fun K x qual st g fd) (S : FnScope N ps (defScope st)) (c : SlX.SCls K C) (t0 : SlX.Slot1 K C f0 q0 0)
    (len : ∀ ds G post px, f ds G post px → ds.length + 1 = ps.length)
    (pre : List Stmt) (s0 : Stmt) (e0 : Expr) (hb : defBody st = pre ++ [s0])
    (hbody : ∀ (cdv : Value) (A : Around) (outer : List Env) (s : Shared) (H : Hp) (E : XK) (F T : Hp), Room k (A.deeper (envOfC qual (defScope st) s.heap.objs.size g cdv)) → ∀ (px : Exn → GD → Prop),
      PS (cyOf P w K mg base N qual (defScope st) g cdv A outer s H E F T px).toCx s0 (SlX.sSl K (tVar 0) (Run (cyOf P w K mg base N qual (defScope st) g cdv A outer s H E F T px).toCx e0) f0) ∧
      ∀ (a : Addr) (ds : List D) (G : GD) (post : List D → GD → Prop), f ds G post px → (cyOf P w K mg base N qual (defScope st) g cdv A outer s H E F T px).Tk → PassesOwn (model P w) (cyOf P w K mg base N qual (defScope st) g cdv A outer s H E F T px).A (cyOf P w K mg base N qual (defScope st) g cdv A outer s H E F T px).env (cyOf P w K mg base N qual (defScope st) g cdv A outer s H E F T px).xe →
      WB (cyOf P w K mg base N qual (defScope st) g cdv A outer s H E F T px) pre (startD N (.adr a :: ds)) G { nx := fun r G' => WE (cyOf P w K mg base N qual (defScope st) g cdv A outer s H E F T px) e0 r G' fun y r1 G1 => ∃ d r2, fz r1 y = some (d, r2) ∧ r2[0]? = some (Sl.sh (.adr a)) ∧ post [d] G1, rt := fun _ _ => False }) :
    FnOk P w K mg base (L2.CX P w) (k + 1) g fd ps (spI K C f) := by
  refine Fo.okX S (fun vs H Q E h => ?_) (fun cdv A outer s H vs Q E hr h => ?_)
  · obtain ⟨a, dx, us, F, G, ds, post, px, rfl, _, _, _, _, _, _, _, _, _, _, rp, hf, _⟩ := h
    rw [List.length_cons, rp.length]; exact len ds G post px hf
  · obtain ⟨a, dx, us, F, G, ds, post, px, rfl, hx, hd, hne, fx, fdx, gx, gdx, e1, e2, e3, rp, hf, hq, hxn⟩ := h
    refine ⟨RunB _ (defBody st), pbR, ?_⟩
    obtain ⟨p0, hW⟩ := hbody cdv A outer s H E F (Tof G H) hr px
    have hl : (D.adr a :: ds).length ≤ N.length := by
      rw [List.length_cons, len ds G post px hf]
      have := congrArg List.length S.pre
      rw [List.length_take] at this
      omega
    rw [hb]
    have S0 := sta_start (N := N) (ds := .adr a :: ds) (vs := .ref a :: us) hl e1 e2 e3 ⟨_, _, rfl, rfl, rp⟩
    have tk : (cyOf P w K mg base N qual (defScope st) g cdv A outer s H E F (Tof G H) px).Tk := (takes_of (E := E) rfl rfl rfl rfl).imp fun cls d σ H' ⟨r, G', F', x, S', ex, q⟩ => hxn x cls d G' H' F' q S'.bas.tin ex
    have lk : Lk (cyOf P w K mg base N qual (defScope st) g cdv A outer s H E F (Tof G H) px) F (Tof G H) := ⟨Ex.refl _, Ex.refl _, fun _ _ z => .inl z⟩
    have go := hW a ds G post hf tk (passes_of rfl) F (Tof G H) F H (L2.start N (.ref a :: us)) lk S0
    refine runB_then (X := cyOf P w K mg base N qual (defScope st) g cdv A outer s H E F (Tof G H) px) (go.mono (fun σ' H' ⟨r', G', F', S', hw⟩ => ?_) (fun v H' ⟨x, G', F', B, rt, q⟩ => q.elim) (fun _ _ ⟨_, _, _, _, q⟩ => q) (fun _ _ ⟨_, _, _, _, q⟩ => q))
    refine RunB.of (pss_cons p0 pss_nil) ((hw F (Tof G H) F' H' σ' lk S').mono fun v0 H1 ⟨y, r1, G1, F1, e4, S1, k1, d, r2, q1, q2, q3⟩ => ?_)
    obtain ⟨F3, e5, S3, rp3⟩ := S1.fz k1 q1
    obtain ⟨va, a1, a2⟩ := S3.sl 0 _ q2
    cases (show va = .ref a from a2)
    have tx : H1 a = some (.ins C dx []) := S3.bas.tk a _ (by rw [Tof_none gx]; exact hx)
    have hs0 : SlX.Slt H1 a C dx [] := .inl ⟨tx, rfl⟩
    have one : SlX.putS 0 v0 [] = [some v0] := rfl
    refine ⟨.ref a, a1, a, C, dx, q0, [], 0, rfl, hs0, c, t0, ?_⟩
    rw [one]
    obtain ⟨F2, f1, f2, f3⟩ := init_frame (vs := [some v0]) S3.bas fx fdx gx gdx hx hd hne rfl
    exact hq _ G1 _ F2 q3 f2 ⟨a, dx, [v0], rfl, f3, .one (Rep.mono f1 _ _ rp3)⟩
end
/-- the promise of a class's making by a mirror -/
def FMI (cx : Nat → Addr) {A R : Type} (en : A → List D) (es : R → List D) (f : A → Out R) : FSpI := fun ds G post px => ∃ a : A, ds = en a ∧ (f a).sat (fun v => post (es v) G) (fun m => px (xnOf cx m) G)
theorem kit_same {K : PySem.W.Frag} {t : Value} (h : (t == t) = true) : PySem.W.kitOne K t t = some true := if_pos h
open Out (Rt)
structure ItemD (P : Program) (w : World) (K : PySem.W.Frag) (mg : Str → Option Value) (base : Heap) (C : Addr) (k : Nat) (ps : List Str) (sp : FSp) : Prop where
  ex : ∃ (g : Addr) (fd : FuncData), PySem.W.findIn K (.ref C) "__getitem__" = some (some (.ref g)) ∧ PySem.W.isFn K (.ref g) = true ∧ PySem.W.fnIn K g = true ∧ FnOk P w K mg base (CX P w) k g fd ps (spD K sp) ∧ Binds K fd ps []
def NoSlP (b : Expr) : Prop := ∀ o i, subscripted b true o i = runValue (.builtin "lifetime.subscript" ⟨[o, i], []⟩)
section
variable {X : Cy} {e a b c o tg kx vx elt i : Expr} {es ifs : List Expr} {st : Stmt} {sts rest body orelse : List Stmt} {r : Env2} {G : GD} {pos tpos apos cpos p0 : Pos} {D0 : EndsD} {α β γ σT ρ : Type}
def rIxOwn (C : Addr) (sp : Sp) (E : XK) : R2 := fun x y H Q => ∃ a dx vs, x = .ref a ∧ SlX.Slt H a C dx vs ∧ sp [x, y] H Q E
theorem pe_subOwn {X : Cx} {ta tb : TE} {C g : Addr} {CX : CXT} {n : Nat} {sp : Sp} {E : XK} (ha : PE X a ta) (hb : PE X b tb) (hs : PySem.W.findIn X.K (.ref C) "__getitem__" = some (some (.ref g))) (hf : PySem.W.isFn X.K (.ref g) = true) (hfn : PySem.W.fnIn X.K g = true) (F : FnR X.prog X.w X.K X.mg X.base CX n g sp) (hr : Room (n + 1) X.A) (hx : Passes CX X E) (hsl : NoSlP b) :
    PE X (.Subscript a b pos) (tOp (rIxOwn C sp E) ta tb) := by
  refine ⟨fun pins s σ H Q I h => ?_⟩
  refine Subscript_ (binT ha hb I h fun v u s2 x y H2 I2 rx ry q => ?_)
  obtain ⟨ad, dx, vs, rfl, hsl2, q⟩ := q
  cases (show v = Value.ref ad from rx)
  obtain ⟨sl, od, _, J, _⟩ := SlX.slt_inst I2 hsl2
  obtain ⟨m, hF⟩ := I2.fr
  refine PySem.W.sub_K hF I2.ok.mod.kin J hs hfn hf (wpAny_call (SlX.run_at (us := [.ref ad, u]) (ws := [.ref ad, y]) F hr.in1 I2.env0.in1 hx I2 (.cons rfl (.cons ry .nil)) q)) (hsl _ _)
theorem we_item {C : Addr} {k j : Nat} {ps : List Str} {sp : FSp} {Q : Res → Env2 → GD → Prop} (M : ItemD X.prog X.w X.K X.mg X.base C k ps sp) (hr : Room j X.A)
    (h : WE X a r G fun x r1 G1 => WE X b r1 G1 fun y r2 G2 => ∃ ds d r3, vw r2 x = some (.ins C ds) ∧ fz r2 y = some (d, r3) ∧ sp [.ins C ds, d] G2 (fun z G3 => Q z r3 G3) (fun _ _ => False)) (hj : k + 1 ≤ j := by omega) (hsl : NoSlP b := by intro _ _; rfl) : WE X (.Subscript a b pos) r G Q := fun F0 T F H σ lk S => by
  obtain ⟨g, fd, h1, h2, h3, h4, h5⟩ := M.ex
  refine Run.of (pe_subOwn (E := fun _ _ _ => False) peR peR h1 h2 h3 (fnr h4 h5) (hr.mono hj) passF hsl) ?_
  refine (h F0 T F H σ lk S).mono fun va H1 ⟨x, r1, G1, F1, e1, S1, k1, h1⟩ => ?_
  obtain ⟨F1', e1', S1', hv⟩ := hold S1 k1
  refine (h1 F0 T F1' H1 σ lk S1').mono fun vb H2 ⟨y, r2, G2, F2, e2, S2, k2, ds, d, r3, q1, q2, q3⟩ => ?_
  have vx := hv F2 G2 H2 r2 _ e2 S2 (.inl q1)
  obtain ⟨F3, e3, S3, rp⟩ := S2.fz k2 q2
  have ra := Rep.mono e3 _ _ vx.rep_ins
  obtain ⟨ad, dx, vs, rfl, z1, z2⟩ := vx.ins S2.bas.fh
  exact ⟨ad, dx, vs.map some, rfl, z1, spD_of0 (ds := [.ins C ds, d]) S3 (((e1.trans e1').trans e2).trans e3) ⟨_, _, rfl, ra, .one rp⟩ q3⟩
end
structure Rul where
  error : Int
  marks : List Int
deriving DecidableEq, Inhabited
abbrev eRul (C : Addr) : Rul → D := fun r => .ins C [.int r.error, .tup (r.marks.map D.int)]
structure Rak where
  held : List (S × Rul)
deriving DecidableEq
abbrev eRak (CK CR : Addr) : Rak → D := fun r => .ins CK [eD kZ (eRul CR) r.held]
structure Cl_Ruler (K : PySem.W.Frag) (C : Addr) : Prop where
  cls : SlX.SCls K C
  isi : SlX.SIsi K C
  s0 : ∃ p, SlX.Slot1 K C "own_error" p 0
  s1 : ∃ p, SlX.Slot1 K C "own_marks" p 1
  same : PySem.W.kitOne K (.ref C) (.ref C) = some true
  nf : PySem.W.notFirst K C (.ref C) = true
structure Cl_Rack (K : PySem.W.Frag) (C : Addr) : Prop where
  cls : SlX.SCls K C
  isi : SlX.SIsi K C
  s0 : ∃ p, SlX.Slot1 K C "held" p 0
  same : PySem.W.kitOne K (.ref C) (.ref C) = some true
  nf : PySem.W.notFirst K C (.ref C) = true
namespace RBT
open PySem PySem.Calls PyProof.Rows PyProof.V PySem.Spec PySem.W
section
variable {prog : Program} {w : World} {A : Around} {E : Value → Shared → Prop} {s : Shared} {T : String} {r d : Addr} {n : Nat} {P : Nat → Value → Prop} {OK : Heap → Prop}
theorem code_tuple_new_kdl {Q₁ : Value → Shared → Prop} (K : KdlSrc prog w T r d n P OK) (hh : A.handled = none) (hok : OK s.heap) (hn : n ≤ sizeLine)
    (h : ∀ (h' : Heap) (tk : Nat) (acc : Array Value), (∀ b o, s.heap.get? b = some o → h'.get? b = some o) → ItemsOf P acc n →
      Q₁ (.ref h'.objs.size) { s with heap := h'.push { cls := .type "tuple", data := .seq acc }, toks := tk }) :
    codeAny (model prog w) A (.call (.builtin "tuple.__new__") ⟨[.type "tuple", .ref r], []⟩) (wants Q₁ E) s := by
  refine codeAny_of_tree ?_
  show wpAny _ A.in1 (do checkBuiltinCall "tuple.__new__" ⟨[.type "tuple", .ref r], []⟩; again (.builtin "tuple.__new__" ⟨[.type "tuple", .ref r], []⟩)) _ _ s
  refine wpAny_bind (wpAny_of_eq (F.newCall_tuple_1 _) (wpAny_pure ⟨plainId_quiet F.plain_tuple_new _, codeAny_builtin F.entry_tuple_new ?_⟩))
  rw [Around.under_plainId F.plain_tuple_new _]
  have hsub := sub_tuple_self
  have hinit := init_tuple_lookup
  have hmh := madeHere_tuple
  have hTI : s.TypeIs (.ref r) T := K.type s hok
  have hh1 : A.in1.handled = none := hh
  have hnt := K.notTuple
  wp_walk using wpAny_typeOf hTI, kdu_collect (A := A.in1) K hh1 hok hn
  intro h' tk acc hk hacc
  show wpAny _ _ (Builtin.Tuple.tupleExact acc.toList.toArray >>= fun v => ret v) _ _ _
  unfold Builtin.Tuple.tupleExact
  refine wpAny_bind (wpAny_newObj_type ?_ (by show acc.toList.toArray.size ≤ sizeLine; simp only [Array.toArray_toList]; rw [hacc.1]; exact hn))
  refine wpAny_pure ?_
  have e : acc.toList.toArray = acc := by simp
  rw [e]
  exact h h' tk acc hk hacc
theorem call_tuple_kdl {Q : Value → Shared → Prop} (K : KdlSrc prog w T r d n P OK) (hh : A.handled = none) (hok : OK s.heap) (hn : n ≤ sizeLine)
    (hQ : ∀ (h' : Heap) (tk : Nat) (acc : Array Value), (∀ b o, s.heap.get? b = some o → h'.get? b = some o) → ItemsOf P acc n →
      Q (.ref h'.objs.size) { s with heap := h'.push { cls := .type "tuple", data := .seq acc }, toks := tk }) :
    wpAny (model prog w) A (call (.type "tuple") [.ref r]) Q E s := by
  refine callType_codes (Q₁ := fun obj s₁ => s₁.TypeIs obj "tuple" ∧ Q obj s₁) F.called_tuple (F.typeCall_tuple_1 _) F.entry_object_init
    (code_tuple_new_kdl (A := A.in1) K hh hok hn fun h' tk acc hk hacc => ⟨⟨_, Heap.get?_push_size _ rfl, rfl⟩, hQ h' tk acc hk hacc⟩) fun obj s₁ h₁ => ?_
  exact ⟨h₁.1, F.args_object_init_2 obj _, object_init_meets F.called_tuple.init.lookup F.called_tuple.made (by decide) prog w A.in1 _ s₁ ⟨h₁.1, rfl, h₁.2⟩⟩
end
end RBT
open Out (Rt)
theorem call_tupleD {X : Cx} (hcalm : X.calm = true) : CallR X (.type "tuple") (fun xs H Q => ∃ (a : Addr) (kvs : List (Key × V)), xs = [.ref a] ∧ Rd H a (.dK kvs) ∧ ∀ p, H p = none → Q (.ref p) (upd H p (.tup (kvs.map fun kv => kV kv.1)))) := by
  intro pins s σ H xs us Q I r q
  obtain ⟨a, kvs, ex, hd, q⟩ := q
  subst ex
  obtain ⟨u, eu, rx⟩ := vals1 r
  subst eu
  cases rx
  obtain ⟨z, lo, vs, rel, dd⟩ := dk_rd I.hok hd
  obtain ⟨ep, hat⟩ := dd.dictAt
  have ek : (kvs.map fun kv => kV kv.1) = vs.map fun p => kV p.1 := by
    have e := congrArg (List.map kV) rel.keys
    rw [List.map_map, List.map_map] at e
    exact e
  refine RBT.call_tuple_kdl (PySem.W.kdl_dict (knd := mixKind X.prog X.w) (kvs := vs) (ep := ep) lo) (I.ok.hd hcalm) hat (by rw [← rel.length]; exact z) fun h' tk acc hk hacc => ?_
  have hv : Vals (vs.map fun p => kV p.1) acc.toList := keys_at (by rw [Array.length_toList]; exact hacc.1) fun j v e => hacc.2 j v (by rw [← Array.getElem?_toList]; exact e)
  have I1 : Inv X pins σ H { s with heap := h', toks := tk } := I.kept hk
  have I2 : Inv X pins σ (upd H h'.objs.size (.tup (kvs.map fun kv => kV kv.1))) { s with heap := h'.push { cls := .type "tuple", data := .seq acc }, toks := tk } :=
    I1.laid (t' := tk) (fun b o e => Heap.get?_push_of_some _ e) (Nat.le_refl _) (show ObjOk X.prog X.w _ _ _ (.tup (kvs.map fun kv => kV kv.1)) from ⟨by rw [List.length_map]; exact z, acc.toList, by rw [ek]; exact hv, by rw [Array.toArray_toList]; exact IsTup.new _ _⟩)
  exact ⟨.ref h'.objs.size, _, I2, rfl, q _ (I1.hok.fresh (Nat.le_refl _))⟩
section
variable {X : Cy} {e a b c o tg kx vx elt i : Expr} {es ifs : List Expr} {st : Stmt} {sts rest body orelse : List Stmt} {r : Env2} {G : GD} {pos tpos apos cpos p0 : Pos} {D0 : EndsD} {α β γ σT ρ : Type}
theorem keys_rep {K : PySem.W.Frag} {F : Hp} : ∀ (ks : List Key), RepL K F (ks.map kD) (ks.map kV)
  | [] => rfl
  | k :: ks => ⟨kV k, ks.map kV, rfl, kD_rep k, keys_rep ks⟩
theorem t_tupleD {κ ν : Type} {k : κ → Key} {f : ν → D} (kvs : List (κ × ν)) (hcalm : X.calm = true) {Q : Res → Prop} (q : Q (.sh (.tup ((kvs.map (·.1)).map fun x => kD (k x))))) : CallW1 X (.type "tuple") (eD k f kvs) Q := fun F0 T F G H r σ v S hv => by
  obtain ⟨p, us, rfl, h1, h2⟩ := hv.dics S.bas.fh
  refine ⟨_, call_tupleD hcalm, p, us, rfl, h1, fun l hl => ?_⟩
  have ek : us.map (fun kv => kV kv.1) = ((kvs.map fun p => k p.1).map kV) := by
    have := h2.keys
    rw [zip_eDl] at this
    have e := congrArg (List.map kV) this
    rw [List.map_map] at e
    rw [show us.map (fun kv => kV kv.1) = List.map (kV ∘ fun x => x.fst) us from rfl, e]
    unfold eDl; rw [List.map_map, List.map_map, List.map_map]; rfl
  rw [ek]
  refine new_tup S ?_ hl q
  rw [show ((kvs.map (·.1)).map fun x => kD (k x)) = (kvs.map fun p => k p.1).map kD by rw [List.map_map, List.map_map]; rfl]
  exact keys_rep _
/-- sorted texts -/
def leS (a b : S) : Bool := decide (a.1.cps.toList ≤ b.1.cps.toList)
def ssort (xs : List S) : List S := xs.mergeSort leS
theorem t_lenS {x : S} (hl : x.1.length ≤ LIM) {Q : Res → Prop} (q : Q (.sh (.int (x.1.length : Nat)))) : CallW1 X (.builtin "len") (eZ x) Q :=
  c1_flat (d' := .int (x.1.length : Nat)) (v' := .int (x.1.length : Nat)) (fun _ _ => rfl) (fun F H v ex h => by
    have e : v = .str x.1 := by
      rcases h with z | ⟨_, _, z⟩
      · exact z
      · exact z.elim
    subst e
    exact ⟨_, call_len_str, fun P hp => ⟨_, rfl, lim_ok hl, hp⟩⟩) q
/-- the signs of a text -/
abbrev Chr := { c : Nat // c < 0x110000 }
abbrev eC : Chr → D := fun c => .str ⟨#[c.1]⟩
theorem eqc_chr : EqC eC 0 := ⟨fun c => by
    show PyData.strOk ⟨#[c.1]⟩ = true
    unfold PyData.strOk
    simp [c.2], fun a b => by
    show PyData.eqv (.str ⟨#[a.1]⟩) (.str ⟨#[b.1]⟩) = true ↔ a = b
    simp [PyData.eqv, Subtype.ext_iff]⟩
def chrs (x : S) : List Chr := x.1.cps.toList.attach.map fun c => ⟨c.1, by
  have h := x.2
  unfold PyData.strOk at h
  rw [Array.all_eq_true_iff_forall_mem] at h
  exact of_decide_eq_true (h c.1 (Array.mem_toList_iff.mp c.2))⟩
theorem chrs_val (x : S) : (chrs x).map (·.1) = x.1.cps.toList := by
  unfold chrs
  rw [List.map_map]
  exact List.attach_map_subtype_val _
theorem chrs_len (x : S) : (chrs x).length = x.1.cps.size := by
  have := congrArg List.length (chrs_val x)
  rwa [List.length_map, Array.length_toList] at this
theorem ti_str {Q : List D → Env2 → GD → Prop} (h : WE X e r G fun z r1 G1 => ∃ (x : S) (r2 : Env2), fz r1 z = some (eZ x, r2) ∧ Q ((chrs x).map eC) r2 G1) : WI X tg e r G Q := fun F0 T F H σ lk S =>
  RunI.of (pi_str peR) ((h F0 T F H σ lk S).mono fun v H1 ⟨z, r1, G1, F1, e1, S1, k1, x, r2, q1, q2⟩ => by
    obtain ⟨Fa, e2, Sa, rp⟩ := S1.fz k1 q1
    cases (show v = .str x.1 from rp)
    refine ⟨x.1, rfl, _, r2, G1, Fa, e1.trans e2, Sa, fun F H ea eh => ⟨?_, fun i d hi => ?_⟩, q2⟩
    · show x.1.cps.size ≤ ((chrs x).map eC).length
      rw [List.length_map, chrs_len]; exact Nat.le_refl _
    · rw [List.getElem?_map] at hi
      cases hc : (chrs x)[i]? with
      | none => rw [hc] at hi; cases hi
      | some c =>
        rw [hc] at hi; cases hi
        have hv : x.1.cps.toList[i]? = some c.1 := by rw [← chrs_val, List.getElem?_map, hc]; rfl
        rw [Array.getElem?_toList] at hv
        refine ⟨?_, fun y H' ⟨y1, c', y2, y3⟩ => .inl ⟨y1, ?_⟩⟩
        · show i < x.1.cps.size
          obtain ⟨h1, _⟩ := Array.getElem?_eq_some_iff.mp hv
          exact h1
        · rw [hv] at y2; cases y2
          exact y3)
theorem t_ninS {c : Chr} {x : S} {Q : Res → Prop} (q : Q (.sh (.bl (!decide (c ∈ chrs x))))) : OpW X (compareOp .NotIn) (eC c) (eZ x) Q := by
  have e : decide (c ∈ chrs x) = decide (c.1 ∈ x.1.cps.toList) := by
    rw [← chrs_val]
    congr 1
    simp only [List.mem_map, eq_iff_iff]
    exact ⟨fun h => ⟨c, h, rfl⟩, fun ⟨c', h, hc⟩ => by cases Subtype.ext hc; exact h⟩
  rw [e] at q
  refine opw_flat (d := .bl (!decide (c.1 ∈ x.1.cps.toList))) (v := .bl (!decide (c.1 ∈ x.1.cps.toList))) (fun _ _ => rfl) (fun F H va vb ex h1 h3 => ?_) q
  have e1 : va = .str ⟨#[c.1]⟩ := by
    rcases h1 with z | ⟨_, _, z⟩
    · exact z
    · exact z.elim
  have e2 : vb = .str x.1 := by
    rcases h3 with z | ⟨_, _, z⟩
    · exact z
    · exact z.elim
  subst e1 e2
  exact ⟨_, op_notIn_sign, fun P p => ⟨c.1, x.1, rfl, rfl, p⟩⟩
end
namespace RBS
open PySem PyProof.Rows SrtO Srt
theorem ltL_tri (a b : List Nat) (h1 : ¬ a < b) (h2 : ¬ b < a) : a = b := List.le_antisymm (List.not_lt.mp h2) (List.not_lt.mp h1)
def lexS (p q : Str × Int) : Bool := if p.1 = q.1 then decide (p.2 < q.2) else decide (p.1.cps.toList < q.1.cps.toList)
theorem str_ext {x y : Str} (h : x.cps.toList = y.cps.toList) : x = y := by
  cases x; cases y
  congr
  exact Array.ext' h
theorem lexS_iff {p q : Str × Int} : lexS p q = true ↔ p.1.cps.toList < q.1.cps.toList ∨ (p.1 = q.1 ∧ p.2 < q.2) := by
  unfold lexS
  by_cases e : p.1 = q.1
  · rw [if_pos e, decide_eq_true_eq, e]
    exact ⟨fun h => .inr ⟨rfl, h⟩, fun h => h.elim (fun z => absurd z (List.lt_irrefl _)) fun z => z.2⟩
  · rw [if_neg e, decide_eq_true_eq]
    exact ⟨.inl, fun h => h.elim id fun z => absurd z.1 e⟩
theorem lexS_no {p q : Str × Int} : lexS p q = false ↔ q.1.cps.toList < p.1.cps.toList ∨ (p.1 = q.1 ∧ q.2 ≤ p.2) := by
  constructor
  · intro h
    have h' : ¬ (p.1.cps.toList < q.1.cps.toList ∨ (p.1 = q.1 ∧ p.2 < q.2)) := fun z => by rw [lexS_iff.mpr z] at h; cases h
    by_cases e : p.1 = q.1
    · exact .inr ⟨e, Int.not_lt.mp fun z => h' (.inr ⟨e, z⟩)⟩
    · refine .inl ?_
      by_cases z : q.1.cps.toList < p.1.cps.toList
      · exact z
      · exact absurd (str_ext (ltL_tri _ _ (fun y => h' (.inl y)) z)) e
  · intro h
    cases q' : lexS p q with
    | false => rfl
    | true =>
      rcases lexS_iff.mp q' with z | ⟨z1, z2⟩
      · rcases h with y | ⟨y1, y2⟩
        · exact absurd (List.lt_trans z y) (List.lt_irrefl _)
        · rw [y1] at z; exact absurd z (List.lt_irrefl _)
      · rcases h with y | ⟨y1, y2⟩
        · rw [z1] at y; exact absurd y (List.lt_irrefl _)
        · omega
theorem lexS_asym {p q : Str × Int} (h : lexS p q = true) : lexS q p = false := by
  rcases lexS_iff.mp h with z | ⟨z1, z2⟩
  · exact lexS_no.mpr (.inl z)
  · exact lexS_no.mpr (.inr ⟨z1.symm, by omega⟩)
theorem lexS_tr {x y z : Str × Int} (h1 : lexS y x = false) (h2 : lexS z y = false) : lexS z x = false := by
  rcases lexS_no.mp h1 with a | ⟨a1, a2⟩
  · rcases lexS_no.mp h2 with b | ⟨b1, b2⟩
    · exact lexS_no.mpr (.inl (List.lt_trans a b))
    · exact lexS_no.mpr (.inl (by rw [b1]; exact a))
  · rcases lexS_no.mp h2 with b | ⟨b1, b2⟩
    · exact lexS_no.mpr (.inl (by rw [← a1]; exact b))
    · exact lexS_no.mpr (.inr ⟨b1.trans a1, by omega⟩)
theorem lexS_anti {x y : Str × Int} (h1 : lexS y x = false) (h2 : lexS x y = false) : x = y := by
  rcases lexS_no.mp h1 with a | ⟨a1, a2⟩
  · rcases lexS_no.mp h2 with b | ⟨b1, b2⟩
    · exact absurd (List.lt_trans a b) (List.lt_irrefl _)
    · rw [b1] at a; exact absurd a (List.lt_irrefl _)
  · rcases lexS_no.mp h2 with b | ⟨b1, b2⟩
    · rw [a1] at b; exact absurd b (List.lt_irrefl _)
    · exact Prod.ext b1 (by omega)
theorem swo_lexS {α : Type} (k : α → Str × Int) : Swo fun v u => lexS (k v) (k u) := ⟨fun _ _ h => lexS_asym h, fun _ _ _ h1 h2 => lexS_tr h1 h2⟩
def IsPairS (h : Heap) (v : Value) (x : Str) (y : Int) : Prop := ∃ a o t u n, v = .ref a ∧ h.get? a = some o ∧ o.cls = .type "tuple" ∧ o.data = .seq #[.str x t, .int y u] n
theorem IsPairS.keeps {h h' : Heap} {v : Value} {x : Str} {y : Int} (p : IsPairS h v x y) (k : ∀ b o, h.get? b = some o → o.cls = .type "tuple" → h'.get? b = some o) : IsPairS h' v x y := by
  obtain ⟨a, o, t, u, n, e, ho, hc, hd⟩ := p
  exact ⟨a, o, t, u, n, e, k _ _ ho hc, hc, hd⟩
theorem firsts_of {h : Heap} : ∀ {vs : List Value}, (∀ v ∈ vs, ∃ x y, IsPairS h v x y) → ∃ fs : List Value, PySem.W.KatTups h vs fs ∧ fs.length = vs.length ∧ ∀ f ∈ fs, ∃ x t, f = Value.str x t
  | [], _ => ⟨[], PySem.W.KatTups.nil, rfl, fun _ hm => by simp at hm⟩
  | v :: vs, hp => by
    obtain ⟨fs, h1, h2, h3⟩ := firsts_of (vs := vs) fun v' hm => hp v' (List.mem_cons_of_mem _ hm)
    obtain ⟨x, y, a, o, t, u, n, e, ho, hc, hd⟩ := hp v (List.mem_cons_self ..)
    subst e
    refine ⟨.str x t :: fs, PySem.W.KatTups.cons ho hc hd rfl h1, by rw [List.length_cons, List.length_cons, h2], fun f hm => ?_⟩
    rcases List.mem_cons.mp hm with rfl | hm
    · exact ⟨x, t, rfl⟩
    · exact h3 f hm
section
variable {prog : Program} {w : World} {A : Around} {E : Value → Shared → Prop} {s : Shared}
theorem pair_cmp {vs : List Value} {k : Value → Str × Int} (hp : ∀ v ∈ vs, IsPairS s.heap v (k v).1 (k v).2) : Cmp prog w A s (tuples' true) (fun p => p.1 ∈ vs) (lt2 fun v u => lexS (k v) (k u)) := by
  intro p q hm hm'
  have h1 := hp _ hm
  have h2 := hp _ hm'
  show wpAny (model prog w) A (keyLt' (tuples' true) p.1 q.1) (fun r s' => s' = s ∧ r = lexS (k p.1) (k q.1)) (fun _ _ => False) s
  unfold lexS
  generalize (k p.1).1 = x at h1 ⊢
  generalize (k p.1).2 = y at h1 ⊢
  generalize (k q.1).1 = x' at h2 ⊢
  generalize (k q.1).2 = y' at h2 ⊢
  obtain ⟨a, o, t, u, n, e, ho, hc, hd⟩ := h1
  obtain ⟨a', o', t', u', n', e', ho', hc', hd'⟩ := h2
  rw [e, e']
  refine PySem.W.kat_lt ho hd ho' hd' ?_
  show PySem.W.KatLex prog w A true (decide (2 < 2)) _ [(.str x t, .str x' t'), (.int y u, .int y' u')] 0 s
  refine PySem.W.kat_cons (SeqAt.EqAt.str_str x t x' t' prog w _ _ ?_)
  refine PySem.W.kat_go (fun e1 => ?_) (fun e1 => ?_)
  · have ex : x = x' := by simpa using e1
    refine PySem.W.kat_yes (PySem.W.kat_cons (SeqAt.EqAt.int_int y u y' u' prog w _ _ ?_))
    refine PySem.W.kat_go (fun e2 => ?_) (fun e2 => ?_)
    · have ey : y = y' := by simpa using e2
      have e3 : (if x = x' then decide (y < y') else decide (x.cps.toList < x'.cps.toList)) = false := by
        rw [if_pos ex, ey]
        exact decide_eq_false (Int.lt_irrefl _)
      exact PySem.W.kat_yes (PySem.W.kat_nil ⟨rfl, e3.symm⟩)
    · have e3 : (if x = x' then decide (y < y') else decide (x.cps.toList < x'.cps.toList)) = decide (y < y') := if_pos ex
      refine PySem.W.kat_no (PySem.W.kat_one _ _ (PyProof.Rows.lt_int ?_))
      exact (show s = s ∧ decide (y < y') = (if x = x' then decide (y < y') else decide (x.cps.toList < x'.cps.toList)) from ⟨rfl, e3.symm⟩)
  · have ex : ¬ x = x' := by simpa using e1
    have e3 : (if x = x' then decide (y < y') else decide (x.cps.toList < x'.cps.toList)) = decide (x.cps.toList < x'.cps.toList) := if_neg ex
    exact PySem.W.kat_no (oneLt_str ⟨rfl, e3.symm⟩)
theorem pairs_sortableS {a : Addr} {vs : List Value} {k : Value → Str × Int} (h0 : 0 < vs.length) (hp : ∀ v ∈ vs, IsPairS s.heap v (k v).1 (k v).2) (ha : ∀ o, s.heap.get? a = some o → o.cls ≠ .type "tuple") : SortableO prog w A s a vs fun v u => lexS (k v) (k u) := by
  intro h' keep
  have hp' : ∀ v ∈ vs, IsPairS h' v (k v).1 (k v).2 := fun v hm => (hp v hm).keeps fun b o e c => keep b o (fun z => by subst z; exact ha o e c) e
  obtain ⟨fs, h1, h2, h3⟩ := firsts_of fun v hm => ⟨_, _, hp' v hm⟩
  refine ⟨tuples' true, fun Q E hq => ?_, pair_cmp hp'⟩
  refine PySem.W.kat_kind (T := .type "str") h1 (by omega) (fun f hm => ?_) (by rfl) ?_
  · obtain ⟨x, t, rfl⟩ := h3 f hm
    exact PySem.W.Looks.now
  · have e : (Value.type "str" != Value.type "tuple") = true := by first | decide +kernel | rfl | decide
    rw [e]
    exact hq
theorem sorted_pairsS {l : Addr} {vs : List Value} {k : Value → Str × Int} {Q : Value → Shared → Prop} (hl : s.heap.IsList l vs.toArray) (hz : vs.length ≤ sizeLine) (hp : ∀ v ∈ vs, IsPairS s.heap v (k v).1 (k v).2)
    (h : ∀ (h' : Heap) (d : Addr) (out : List Value), Srtd (fun v u => lexS (k v) (k u)) out → Stb (fun v u => lexS (k v) (k u)) out vs → (∀ b o, s.heap.get? b = some o → h'.get? b = some o) → s.heap.objs.size ≤ d → (∃ n, h'.get? d = some (seqObj "list" out.toArray n)) → Q (.ref d) { s with heap := h' }) :
    wpAny (model prog w) A (call (.builtin "sorted") [.ref l]) Q E s := by
  refine sorted_ord (swo_lexS k) hl hz (fun h2 h₁ a ha kk => ?_) fun out hs hb => ?_
  · refine pairs_sortableS (s := { s with heap := h₁ }) (by omega) (fun v hm => (hp v hm).keeps fun b o e _ => (kk b o e).2) fun o e => ?_
    have e' : some o = some (seqObj "list" vs.toArray 0) := e.symm.trans ha
    cases e'
    intro c
    exact absurd (Value.type.inj c) (by decide)
  · exact h _ _ out hs hb (fun b o e => sortedAll_old e) (Nat.le_succ _) (sortedAll_at s.heap vs out.toArray)
end
end RBS
open Out (Rt)
theorem paired_mem {α β : Type} {R : α → β → Prop} : ∀ {xs : List α} {ys : List β}, Paired R xs ys → ∀ x ∈ xs, ∃ y ∈ ys, R x y
  | _, _, .nil, x, hx => by simp at hx
  | _, _, .cons h t, x, hx => by
    rcases List.mem_cons.mp hx with z | z
    · subst z; exact ⟨_, List.mem_cons_self, h⟩
    · obtain ⟨y, hy, q⟩ := paired_mem t x z
      exact ⟨y, List.mem_cons_of_mem _ hy, q⟩
theorem paired_map {α β γ : Type} {R : α → β → Prop} {f : γ → α} {k : γ → β} : ∀ {us : List γ}, (∀ u ∈ us, R (f u) (k u)) → Paired R (us.map f) (us.map k)
  | [], _ => .nil
  | u :: us, h => .cons (h u List.mem_cons_self) (paired_map fun v hv => h v (List.mem_cons_of_mem _ hv))
/-- sorted(xs), xs a list of pairs (text, int) of any length -/
def rSortedPS (K : PySem.W.Frag) : List V → Hp → VK → Prop := fun vs H Q => ∃ (a : Addr) (xs : List V) (zs : List (Str × Int)) (P : V → Str × Int → Prop), vs = [V.ref a] ∧ SqL K H a xs ∧ Paired P xs zs ∧ (∀ x z, P x z → ∃ t, x = V.ref t ∧ SqT K H t [.str z.1, .int z.2]) ∧
  ∀ ys zs' p, Paired P ys zs' → zs'.Perm zs → zs'.Pairwise (fun a b => RBS.lexS b a = false) → H p = none → Q (.ref p) (upd H p (.lst ys))
theorem pairS_inj {h : Heap} {v : Value} {x x' : Str} {y y' : Int} (h1 : RBS.IsPairS h v x y) (h2 : RBS.IsPairS h v x' y') : (x, y) = (x', y') := by
  obtain ⟨a, o, t, u, n, e, ho, hc, hd⟩ := h1
  obtain ⟨a', o', t', u', n', e', ho', hc', hd'⟩ := h2
  subst e; cases e'
  rw [ho] at ho'; cases ho'
  rw [hd] at hd'
  cases hd'; rfl
open Classical in
theorem cr_sortedPS {X : Cx} : CallR X (.builtin "sorted") (rSortedPS X.K) := by
  intro pins s σ H vs us Q I r h
  obtain ⟨a, xs, zs, P, rfl, hs, hP, hx, q⟩ := h
  obtain ⟨its, rv, hl, hz⟩ := I.list hs
  obtain ⟨u, rfl, ru⟩ := vals1 r
  obtain rfl : u = Value.ref a := ru
  have hp1 : ∀ x z, P x z → ∀ v, RelV x v → RBS.IsPairS s.heap v z.1 z.2 := fun x z hxz v rx => by
    obtain ⟨t, rfl, ht⟩ := hx x z hxz
    cases (show v = Value.ref t from rx)
    obtain ⟨its2, r2, ⟨o, ho, hc, n, hd⟩, _⟩ := I.tuple ht
    obtain ⟨u1, u2, rfl, ri, rj⟩ := vals2 r2
    obtain ⟨t1, rfl⟩ := ri
    obtain ⟨t2, rfl⟩ := rj
    exact ⟨t, o, t1, t2, n, rfl, ho, hc, hd⟩
  obtain ⟨e1, e2⟩ := refs_back rv fun x m => by
    obtain ⟨z, _, hz⟩ := paired_mem hP x m
    obtain ⟨t, e, _⟩ := hx x z hz
    exact ⟨t, e⟩
  let k : Value → Str × Int := fun u => if hh : ∃ z : Str × Int, RBS.IsPairS s.heap u z.1 z.2 then hh.choose else (⟨#[]⟩, 0)
  have hk : ∀ u z, RBS.IsPairS s.heap u z.1 z.2 → k u = z := fun u z hu => by
    have hh : ∃ z : Str × Int, RBS.IsPairS s.heap u z.1 z.2 := ⟨z, hu⟩
    show (if hh : ∃ z : Str × Int, RBS.IsPairS s.heap u z.1 z.2 then hh.choose else (⟨#[]⟩, 0)) = z
    rw [dif_pos hh]
    exact pairS_inj hh.choose_spec hu
  have rel : ∀ u ∈ its, RelV (backV u) u := fun u hu => by
    obtain ⟨t, rfl⟩ := e2 u hu
    exact rfl
  have hzs : ∀ (us : List Value) (zs : List (Str × Int)), (∀ u ∈ us, RelV (backV u) u) → Paired P (us.map backV) zs → zs = us.map k ∧ ∀ u ∈ us, P (backV u) (k u) := by
    intro us
    induction us with
    | nil => intro zs _ h; cases h; exact ⟨rfl, fun _ hu => by simp at hu⟩
    | cons u us ih =>
      intro zs hr h
      cases h with
      | cons h1 h2 =>
        obtain ⟨g1, g2⟩ := ih _ (fun v hv => hr v (List.mem_cons_of_mem _ hv)) h2
        have ek := hk u _ (hp1 _ _ h1 u (hr u List.mem_cons_self))
        subst g1
        rw [List.map_cons, ek]
        refine ⟨rfl, fun v hv => ?_⟩
        rcases List.mem_cons.mp hv with z | z
        · subst z; rw [ek]; exact h1
        · exact g2 v z
  rw [e1] at hP
  obtain ⟨g1, g2⟩ := hzs its zs rel hP
  refine RBS.sorted_pairsS (k := k) hl.isList (by rw [← rv.length]; exact hz) (fun v hv => hp1 _ _ (g2 v hv) v (rel v hv)) fun h' d out h1 h2 kp hd hn => ?_
  have hm : ∀ u ∈ out, u ∈ its := fun u hu => h2.perm.mem_iff.mp hu
  obtain ⟨n, hn⟩ := hn
  refine ⟨.ref d, upd H d (.lst (out.map backV)), I.laid (t' := s.toks) kp hd ⟨?_, out, n, vals_back fun u hu => e2 u (hm u hu), hn⟩, rfl, q _ (out.map k) d (paired_map fun u hu => g2 u (hm u hu)) ?_ ?_ (I.hok.fresh hd)⟩
  · rw [List.length_map, h2.perm.length_eq, ← rv.length]
    exact hz
  · rw [g1]; exact h2.perm.map k
  · exact List.pairwise_map.mpr h1
/-- the pairs of a mirror, sorted -/
def gP (a : S × Int) : Str × Int := (a.1.1, a.2)
def leP (a b : S × Int) : Bool := !RBS.lexS (gP b) (gP a)
def psort (xs : List (S × Int)) : List (S × Int) := xs.mergeSort leP
theorem leP_trans (a b c : S × Int) (h1 : leP a b = true) (h2 : leP b c = true) : leP a c = true := by
  unfold leP at *
  rw [Bool.not_eq_true'] at *
  exact RBS.lexS_tr h1 h2
theorem leP_total (a b : S × Int) : (leP a b || leP b a) = true := by
  unfold leP
  cases h : RBS.lexS (gP b) (gP a) with
  | false => rfl
  | true => rw [RBS.lexS_asym h]; rfl
theorem psort_perm (xs : List (S × Int)) : (psort xs).Perm xs := List.mergeSort_perm _ _
theorem psort_sorted (xs : List (S × Int)) : (psort xs).Pairwise fun a b => leP a b = true := List.pairwise_mergeSort leP_trans leP_total xs
theorem gP_inj {a b : S × Int} (e : gP a = gP b) : a = b := by
  obtain ⟨a1, a2⟩ := a
  obtain ⟨b1, b2⟩ := b
  have e1 : a1.1 = b1.1 := congrArg Prod.fst e
  have e2 : a2 = b2 := congrArg Prod.snd e
  rw [Subtype.ext e1, e2]
theorem leP_anti (a b : S × Int) (h1 : leP a b = true) (h2 : leP b a = true) : a = b := by
  unfold leP at *
  rw [Bool.not_eq_true'] at *
  exact gP_inj (RBS.lexS_anti h1 h2)
theorem psort_of {xs ys : List (S × Int)} (p : xs.Perm ys) (h : xs.Pairwise fun a b => leP a b = true) : xs = psort ys :=
  List.Perm.eq_of_pairwise (le := fun a b => leP a b = true) (fun a b _ _ h h' => leP_anti a b h h') h (psort_sorted ys) (p.trans (psort_perm ys).symm)
theorem repl_pair {K : PySem.W.Frag} {F : Hp} : ∀ {xs : List (S × Int)} {vs : List V}, RepL K F (xs.map (eP eZ eI)) vs → Paired (fun x z => ∃ s : S × Int, gP s = z ∧ Rep K F (eP eZ eI s) x) vs (xs.map gP)
  | [], _, h => by rw [show _ = [] from h]; exact .nil
  | x :: xs, _, ⟨v0, vs', e, h1, h2⟩ => by
    subst e
    exact .cons ⟨x, rfl, h1⟩ (repl_pair h2)
theorem pair_repl {K : PySem.W.Frag} {F : Hp} : ∀ {xs : List (S × Int)} {vs : List V}, Paired (fun x z => ∃ s : S × Int, gP s = z ∧ Rep K F (eP eZ eI s) x) vs (xs.map gP) → RepL K F (xs.map (eP eZ eI)) vs
  | [], _, .nil => rfl
  | x :: xs, _, .cons ⟨s, h1, h2⟩ t => by
    cases gP_inj h1
    exact ⟨_, _, rfl, h2, pair_repl t⟩
section
variable {X : Cy}
theorem t_sortedP (xs : List (S × Int)) {Q : Res → Prop} (q : Q (.fr (.lst ((psort xs).map (eP eZ eI))))) : CallW1 X (.builtin "sorted") (.lst (xs.map (eP eZ eI))) Q := fun F0 T F G H r σ v S hv => by
  obtain ⟨p, vs, rfl, h1, h2⟩ := hv.lst S.bas.fh
  refine ⟨_, cr_sortedPS, p, vs, xs.map gP, _, rfl, .inl h1, repl_pair h2, fun x z ⟨s, e, rp⟩ => ?_, fun ys zs' l hy hp hs hl => ?_⟩
  · obtain ⟨t, ws, rfl, k1, w1, ws1, e1, k2, w2, ws2, e2, k3, k4⟩ := rp
    subst e1 e2
    cases (show w1 = .str s.1.1 from k2)
    cases (show w2 = .int s.2 from k3)
    cases (show ws2 = [] from k4)
    subst e
    exact ⟨t, rfl, S.bas.fh.sqT k1⟩
  · have e : zs' = (psort xs).map gP := by
      refine List.Perm.eq_of_pairwise (le := fun a b => RBS.lexS b a = false) (fun a b _ _ h h' => RBS.lexS_anti h h') hs ?_ (hp.trans ((psort_perm xs).map gP).symm)
      exact List.pairwise_map.mpr ((psort_sorted xs).imp fun {a b} h => by
        unfold leP at h
        rw [Bool.not_eq_true'] at h
        exact h)
    subst e
    exact new_lst S (pair_repl hy) hl q
end
open Out (Rt)
section
variable {X : Cy} {e a b c o tg kx vx elt i : Expr} {es ifs : List Expr} {st : Stmt} {sts rest body orelse : List Stmt} {r : Env2} {G : GD} {pos tpos apos cpos p0 : Pos} {D0 : EndsD} {α β γ σT ρ : Type}
def WPr (X : Cy) : List Expr → List Expr → Env2 → GD → (List (Key × D) → Env2 → GD → Prop) → Prop
  | k :: ks, v :: vs, r, G, Q => WE X k r G fun x r1 G1 => ∃ key, x = .sh (kD key) ∧ WE X v r1 G1 fun y r2 G2 => ∃ d r3, fz r2 y = some (d, r3) ∧ WPr X ks vs r3 G2 fun ps r4 G4 => Q ((key, d) :: ps) r4 G4
  | _, _, r, G, Q => Q [] r G
def prs (X : Cy) : List Expr → List Expr → List (TE × TE)
  | k :: ks, v :: vs => (Run X k, Run X v) :: prs X ks vs
  | _, _ => []
theorem prs_ok : ∀ (ks vs : List Expr), ks.length = vs.length → PPs X.toCx pos (ks.map some) vs (prs X ks vs)
  | [], [], _ => pps_nil
  | k :: ks, v :: vs, h => pps_cons peR peR (prs_ok ks vs (by simpa using h))
  | [], _ :: _, h => by simp at h
  | _ :: _, [], h => by simp at h
theorem prs_mono {σ : L2.St} : ∀ (ks vs : List Expr) {H : Hp} {Q Q' : List (V × V) → Hp → Prop}, tPairs (prs X ks vs) σ H Q → (∀ ps H', Q ps H' → Q' ps H') → tPairs (prs X ks vs) σ H Q'
  | [], [], _, _, _, h, k => k _ _ h
  | [], _ :: _, _, _, _, h, k => k _ _ h
  | _ :: _, [], _, _, _, h, k => k _ _ h
  | a :: ks, b :: vs, H, Q, Q', h, k => Run.mono (show Run X a σ H _ from h) fun _ _ h1 => Run.mono (show Run X b σ _ _ from h1) fun _ _ h2 => prs_mono ks vs h2 fun ps H' q => k _ H' q
theorem wpr_run : ∀ (ks vs : List Expr) (r : Env2) (G : GD) (Q : List (Key × D) → Env2 → GD → Prop) (F0 T F H : Hp) (σ : L2.St), ks.length = vs.length → Lk X F0 T → Sta X.K F0 T F G H r σ → WPr X ks vs r G Q →
    tPairs (prs X ks vs) σ H (fun ps H' => ∃ kvs us r' G' F', ps = us.map (fun kv : Key × V => (kV kv.1, kv.2)) ∧ us.length = ks.length ∧ DRep X.K F' kvs us ∧ Ex F F' ∧ Sta X.K F0 T F' G' H' r' σ ∧ Q kvs r' G')
  | [], [], r, G, Q, F0, T, F, H, σ, _, lk, S, h => ⟨[], [], r, G, F, rfl, rfl, rfl, Ex.refl _, S, h⟩
  | k :: ks, v :: vs, r, G, Q, F0, T, F, H, σ, hl, lk, S, h => by
    refine (h F0 T F H σ lk S).mono fun va H1 ⟨x, r1, G1, F1, e1, S1, k1, key, hx, h1⟩ => ?_
    subst hx
    cases (rep_kD k1)
    refine (h1 F0 T F1 H1 σ lk S1).mono fun vb H2 ⟨y, r2, G2, F2, e2, S2, k2, d, r3, q1, q2⟩ => ?_
    obtain ⟨F3, e3, S3, rp⟩ := S2.fz k2 q1
    have ih := wpr_run ks vs r3 G2 _ F0 T F3 H2 σ (by simpa using hl) lk S3 q2
    refine prs_mono ks vs ih fun ps H' ⟨kvs, us, r', G', F', z1, z0, z2, z3, z4, z5⟩ => ?_
    exact ⟨(key, d) :: kvs, (key, vb) :: us, r', G', F', by rw [z1]; rfl, by rw [List.length_cons, List.length_cons, z0], ⟨_, us, rfl, rfl, Rep.mono z3 _ _ rp, z2⟩, ((e1.trans e2).trans e3).trans z3, z4, z5⟩
  | [], _ :: _, _, _, _, _, _, _, _, _, h, _, _, _ => by simp at h
  | _ :: _, [], _, _, _, _, _, _, _, _, h, _, _, _ => by simp at h
theorem we_disp {ks vs : List Expr} {Q : Res → Env2 → GD → Prop} (h : WPr X ks vs r G fun kvs r1 G1 => Q (.fr (dicD (kvs.foldl (fun acc kv => putD acc kv.1 kv.2) []))) r1 G1) (hl : ks.length = vs.length := by rfl) (h0 : ks.map some ≠ [] := by simp) (h15 : (ks.map some).length ≤ 15 := by simp) (hall : (ks.map some).all (·.isSome) = true := by rfl) :
    WE X (.Dict (ks.map some) vs pos) r G Q := fun F0 T F H σ lk S => Run.of (pe_disp (prs_ok ks vs hl) hall (by rw [List.length_map]; exact hl) h0 h15) fun L hD => by
  obtain ⟨f1, f2, f3⟩ := S.bas.freshF hD
  have f0 : F0 L = none := by
    cases e : F0 L with
    | none => rfl
    | some u => rw [S.bas.ff L u e] at f1; cases f1
  refine prs_mono ks vs (wpr_run ks vs r G _ F0 _ F _ σ hl (lk.ext (Ex.new f3)) (S.tbegin hD (.dK []) f0) h) fun ps H' ⟨kvs, us, r', G', F', z1, z0, z2, z3, z4, z5⟩ => ?_
  obtain ⟨t1, t2, t3⟩ := z4.tF f0
  have hlen : us.length ≤ 15 := by rw [z0]; rwa [List.length_map] at h15
  refine ⟨t3, us, z1, hlen, ?_⟩
  obtain ⟨Sc, ow⟩ := (z4.tput f0 (.dK (mergeK [] us))).tend f0 f3
  exact ⟨.fr (dicD _), r', G', F', z3, Sc, ⟨L, rfl, own_dicD (DRep.fold (acc := []) (ws := []) rfl z2) upd_same, t1, t2, f3, ow⟩, z5⟩
theorem we_disp1 {k v : Expr} {Q : Res → Env2 → GD → Prop} (h : WPr X [k] [v] r G fun kvs r1 G1 => Q (.fr (dicD (kvs.foldl (fun acc kv => putD acc kv.1 kv.2) []))) r1 G1) : WE X (.Dict [some k] [v] pos) r G Q := we_disp (ks := [k]) (vs := [v]) h
theorem disp_of {κ ν : Type} [DecidableEq κ] {k : κ → Key} {f : ν → D} (hk : KInj k) (kvs : List (κ × ν)) {P : D → Prop} (q : P (eD k f (dmk kvs))) : P (dicD ((eDl k f kvs).foldl (fun acc kv => putD acc kv.1 kv.2) [])) := by
  have e2 := fold_putD (f := f) hk kvs []
  rw [show eDl k f [] = [] from rfl] at e2
  rw [e2, eD_dicD]
  exact q
def rDEq0 : R2 := fun x y H Q => ∃ a b ks, x = .ref a ∧ y = .ref b ∧ Rd H a (.dK ks) ∧ Rd H b (.dK []) ∧ Q (.bl ks.isEmpty) H
theorem op_deq0 {X : Cx} (hu : X.A.units < cLine) : OpR X (compareOp .Eq) rDEq0 := by
  intro pins s σ H x y v u Q I rx ry h
  obtain ⟨a, b, ks, rfl, rfl, ea, eb, q⟩ := h
  obtain rfl : v = Value.ref a := rx
  obtain rfl : u = Value.ref b := ry
  obtain ⟨za, ya, va, ra, da⟩ := dk_rd I.hok ea
  obtain ⟨zb, yb, vb, rb, db⟩ := dk_rd I.hok eb
  have hb : vb = [] := by have := rb.length; cases vb with | nil => rfl | cons => simp at this
  subst hb
  have hl := ra.length
  refine PySem.W.keq_eq (knd := mixKind X.prog X.w) (r := true) ya yb da db hu (fun e => ?_) (fin_bl I q ?_)
  · have : va = [] := List.length_eq_zero_iff.mp e
    subst this
    exact .nil
  · cases ks with
    | nil => have : va = [] := List.length_eq_zero_iff.mp hl.symm; subst this; rfl
    | cons p ks => cases va with
      | nil => simp at hl
      | cons => rfl
theorem t_deq0 {κ ν : Type} {k : κ → Key} {f : ν → D} (hu : X.A.units + 64 < cLine) (kvs : List (κ × ν)) {Q : Res → Prop} (q : Q (.sh (.bl kvs.isEmpty))) : OpW X (compareOp .Eq) (eD k f kvs) (.dic [] []) Q := by
  refine opw_flat (d := .bl kvs.isEmpty) (v := .bl kvs.isEmpty) (fun _ _ => rfl) (fun F H va vb ex h1 h3 => ?_) q
  obtain ⟨p, us, rfl, k1, k2⟩ := h1.dics ex
  obtain ⟨p2, us2, rfl, k3, k4⟩ := h3.dics ex
  cases (show us2 = [] from k4)
  refine ⟨_, op_deq0 (by omega), fun P hp => ⟨p, p2, us, rfl, rfl, k1, k3, ?_⟩⟩
  have : us.isEmpty = kvs.isEmpty := by
    have := k2.length
    rw [zip_eDl] at this
    unfold eDl at this
    rw [List.length_map] at this
    cases us with
    | nil => cases kvs with
      | nil => rfl
      | cons => simp at this
    | cons => cases kvs with
      | nil => simp at this
      | cons => rfl
  rw [this]; exact hp
theorem rising_chain : ∀ (ys : List Str) (p : Str), risingS p ys = true → (p :: ys).Pairwise fun a b => ¬ b.cps.toList < a.cps.toList
  | [], p, _ => by simp
  | y :: ys, p, h => by
    unfold risingS at h
    rw [Bool.and_eq_true] at h
    have ih := rising_chain ys y h.2
    have h1 : ¬ y.cps.toList < p.cps.toList := by
      intro z
      have : ltCps y.cps.toList p.cps.toList = true := by
        rw [ltCps_eq]; exact decide_eq_true z
      rw [this] at h; simp at h
    refine List.pairwise_cons.mpr ⟨fun b hb => ?_, ih⟩
    rcases List.mem_cons.mp hb with e | e
    · subst e; exact h1
    · intro z
      have h2 := (List.pairwise_cons.mp ih).1 b e
      exact h2 (by
        by_cases h3 : b.cps.toList < y.cps.toList
        · exact h3
        · by_cases h4 : y.cps.toList < b.cps.toList
          · exact absurd (List.lt_trans h4 z) h1
          · rw [RBS.ltL_tri _ _ h3 h4] at z; exact absurd z h1)
theorem sortedS_chain : ∀ (ys : List Str), sortedS ys = true → ys.Pairwise fun a b => ¬ b.cps.toList < a.cps.toList
  | [], _ => List.Pairwise.nil
  | y :: ys, h => rising_chain ys y h
theorem leS_trans (a b c : S) (h1 : leS a b = true) (h2 : leS b c = true) : leS a c = true := by
  unfold leS at *
  rw [decide_eq_true_eq] at *
  exact List.le_trans h1 h2
theorem leS_total (a b : S) : (leS a b || leS b a) = true := by
  unfold leS
  rw [Bool.or_eq_true, decide_eq_true_eq, decide_eq_true_eq]
  exact List.le_total _ _
theorem ssort_perm (xs : List S) : (ssort xs).Perm xs := List.mergeSort_perm _ _
theorem ssort_sorted (xs : List S) : (ssort xs).Pairwise fun a b => leS a b = true := List.pairwise_mergeSort leS_trans leS_total xs
theorem strs_rep {K : PySem.W.Frag} {F : Hp} : ∀ (xs : List S), RepL K F (xs.map eZ) ((xs.map (·.1)).map V.str)
  | [] => rfl
  | x :: xs => ⟨_, _, rfl, rfl, strs_rep xs⟩
/-- sorted(d), the keys texts -/
theorem t_sortedDS {ν : Type} {f : ν → D} (kvs : List (S × ν)) (hcalm : X.calm = true) (h64 : kvs.length < 64) {Q : Res → Prop} (q : Q (.fr (.lst ((ssort (kvs.map (·.1))).map eZ)))) : CallW1 X (.builtin "sorted") (eD kZ f kvs) Q := fun F0 T F G H r σ v S hv => by
  obtain ⟨p, us, rfl, h1, h2⟩ := hv.dics S.bas.fh
  refine ⟨_, call_sortedD hcalm, p, us, (kvs.map (·.1)).map (·.1), rfl, h1, ?_, by rw [List.length_map, List.length_map]; exact h64, fun ys l hp hs hl => ?_⟩
  · have := h2.keys
    rw [zip_eDl] at this
    rw [this]
    unfold eDl
    rw [List.map_map, List.map_map, List.map_map]; rfl
  · have e : ys = (ssort (kvs.map (·.1))).map (·.1) := by
      refine List.Perm.eq_of_pairwise (le := fun a b : Str => ¬ b.cps.toList < a.cps.toList) (fun a b _ _ h h' => RBS.str_ext (RBS.ltL_tri _ _ h' h)) (sortedS_chain ys hs) ?_ (hp.trans ((ssort_perm _).map _).symm)
      exact List.pairwise_map.mpr ((ssort_sorted _).imp fun {a b} h => by
        unfold leS at h
        rw [decide_eq_true_eq] at h
        exact List.not_lt.mpr h)
    subst e
    exact new_lst S (strs_rep _) hl q
end
theorem kt_bool_bool {K : PySem.W.Frag} : PySem.W.kitOne K (.type "bool") (.type "bool") = some true := kit_ty (by decide +kernel)
theorem kt_int_bool {K : PySem.W.Frag} : PySem.W.kitOne K (.type "int") (.type "bool") = some false := kit_ty (by decide +kernel)
theorem kt_int_int {K : PySem.W.Frag} : PySem.W.kitOne K (.type "int") (.type "int") = some true := kit_ty (by decide +kernel)
theorem kt_str_bool {K : PySem.W.Frag} : PySem.W.kitOne K (.type "str") (.type "bool") = some false := kit_ty (by decide +kernel)
theorem kt_str_int {K : PySem.W.Frag} : PySem.W.kitOne K (.type "str") (.type "int") = some false := kit_ty (by decide +kernel)
theorem kt_str_str {K : PySem.W.Frag} : PySem.W.kitOne K (.type "str") (.type "str") = some true := kit_ty (by decide +kernel)
theorem kt_tuple_bool {K : PySem.W.Frag} : PySem.W.kitOne K (.type "tuple") (.type "bool") = some false := kit_ty (by decide +kernel)
theorem kt_tuple_int {K : PySem.W.Frag} : PySem.W.kitOne K (.type "tuple") (.type "int") = some false := kit_ty (by decide +kernel)
theorem kt_tuple_str {K : PySem.W.Frag} : PySem.W.kitOne K (.type "tuple") (.type "str") = some false := kit_ty (by decide +kernel)
theorem kt_tuple_tuple {K : PySem.W.Frag} : PySem.W.kitOne K (.type "tuple") (.type "tuple") = some true := kit_ty (by decide +kernel)
theorem kt_tuple_list {K : PySem.W.Frag} : PySem.W.kitOne K (.type "tuple") (.type "list") = some false := kit_ty (by decide +kernel)
theorem kt_list_bool {K : PySem.W.Frag} : PySem.W.kitOne K (.type "list") (.type "bool") = some false := kit_ty (by decide +kernel)
theorem kt_list_int {K : PySem.W.Frag} : PySem.W.kitOne K (.type "list") (.type "int") = some false := kit_ty (by decide +kernel)
theorem kt_list_str {K : PySem.W.Frag} : PySem.W.kitOne K (.type "list") (.type "str") = some false := kit_ty (by decide +kernel)
theorem kt_list_tuple {K : PySem.W.Frag} : PySem.W.kitOne K (.type "list") (.type "tuple") = some false := kit_ty (by decide +kernel)
theorem kt_list_list {K : PySem.W.Frag} : PySem.W.kitOne K (.type "list") (.type "list") = some true := kit_ty (by decide +kernel)
/-- the value of an assignment -/
def asgV : Stmt → Expr
  | .Assign _ v _ => v
  | _ => .Constant .none 0 ⟨0, 0, 0, 0⟩
open Out (Rt)
section
variable {X : Cy} {e a b c o tg kx vx elt i : Expr} {es ifs : List Expr} {st : Stmt} {sts rest body orelse : List Stmt} {r : Env2} {G : GD} {pos tpos apos cpos p0 : Pos} {D0 : EndsD} {α β γ σT ρ : Type}
theorem we_ifN (en : α → D) {Q : Res → Env2 → GD → Prop}
    (h : WT X c r G fun d r1 G1 => ∃ (β : Type) (ma mb : Out α) (f : α → Out β) (Q0 : β → Prop) (E : Xm → Prop), ((if d = true then ma else mb).bind f).sat Q0 E ∧ (d = true → ∀ Q' : α → Prop, ma.sat Q' E → WE X a r1 G1 fun x r2 G2 => ∃ v, x = .sh (en v) ∧ r2 = r1 ∧ G2 = G1 ∧ Q' v) ∧
      (d = false → ∀ Q' : α → Prop, mb.sat Q' E → WE X b r1 G1 fun x r2 G2 => ∃ v, x = .sh (en v) ∧ r2 = r1 ∧ G2 = G1 ∧ Q' v) ∧ ∀ v, (f v).sat Q0 E → Q (.sh (en v)) r1 G1) : WE X (.IfExp c a b pos) r G Q :=
  we_ifExp (h.mono fun d r1 G1 ⟨β, ma, mb, f, Q0, E, h0, h1, h2, q⟩ => ⟨fun hd => by
    rw [if_pos hd] at h0
    exact (h1 hd _ (Out.sb h0)).mono fun x r2 G2 ⟨v, m1, m2, m3, m4⟩ => by subst m1 m2 m3; exact q v m4, fun hd => by
    rw [if_neg (by rw [hd]; exact Bool.false_ne_true)] at h0
    exact (h2 hd _ (Out.sb h0)).mono fun x r2 G2 ⟨v, m1, m2, m3, m4⟩ => by subst m1 m2 m3; exact q v m4⟩)
theorem we_orN {Q : Res → Env2 → GD → Prop} (h : WE X a r G fun x r1 G1 => ∃ (β : Type) (c1 : Bool) (m : Out Bool) (f : Bool → Out β) (Q0 : β → Prop) (E : Xm → Prop), x = .sh (.bl c1) ∧ ((if c1 = true then .ok true else m).bind f).sat Q0 E ∧ (c1 = false → ∀ Q' : Bool → Prop, m.sat Q' E → WE X (.BoolOp .Or (b :: es) pos) r1 G1 fun y r2 G2 => ∃ c2, y = .sh (.bl c2) ∧ r2 = r1 ∧ G2 = G1 ∧ Q' c2) ∧ ∀ v, (f v).sat Q0 E → Q (.sh (.bl v)) r1 G1) : WE X (.BoolOp .Or (a :: b :: es) pos) r G Q :=
  we_or (h.mono fun x r1 G1 ⟨β, c1, m, f, Q0, E, hx, h0, h1, q⟩ => ⟨c1, hx, fun hc => by
    rw [if_neg (by rw [hc]; exact Bool.false_ne_true)] at h0
    exact (h1 hc _ (Out.sb h0)).mono fun y r2 G2 ⟨c2, m1, m2, m3, m4⟩ => by subst m1 m2 m3; exact q c2 m4, fun hc => by
    rw [if_pos hc] at h0
    exact q true h0⟩)
theorem ww_andN {Q : Bool → Env2 → GD → Prop} (h : WT X a r G fun c1 r1 G1 => ∃ (β : Type) (m : Out Bool) (f : Bool → Out β) (Q0 : β → Prop) (E : Xm → Prop), ((if c1 = true then m else .ok false).bind f).sat Q0 E ∧ (c1 = true → ∀ Q' : Bool → Prop, m.sat Q' E → WW X (.BoolOp .And (b :: es) pos) r1 G1 fun d r2 G2 => r2 = r1 ∧ G2 = G1 ∧ Q' d) ∧ ∀ v, (f v).sat Q0 E → Q v r1 G1) : WW X (.BoolOp .And (a :: b :: es) pos) r G Q :=
  ww_and (h.mono fun c1 r1 G1 ⟨β, m, f, Q0, E, h0, h1, q⟩ => ⟨fun hc => by
    rw [if_pos hc] at h0
    exact (h1 hc _ (Out.sb h0)).monoT fun d r2 G2 ⟨m2, m3, m4⟩ => by subst m2 m3; exact q d m4, fun hc => by
    rw [if_neg (by rw [hc]; exact Bool.false_ne_true)] at h0
    exact q false h0⟩)
theorem ww_orN {Q : Bool → Env2 → GD → Prop} (h : WT X a r G fun c1 r1 G1 => ∃ (β : Type) (m : Out Bool) (f : Bool → Out β) (Q0 : β → Prop) (E : Xm → Prop), ((if c1 = true then .ok true else m).bind f).sat Q0 E ∧ (c1 = false → ∀ Q' : Bool → Prop, m.sat Q' E → WW X (.BoolOp .Or (b :: es) pos) r1 G1 fun d r2 G2 => r2 = r1 ∧ G2 = G1 ∧ Q' d) ∧ ∀ v, (f v).sat Q0 E → Q v r1 G1) : WW X (.BoolOp .Or (a :: b :: es) pos) r G Q :=
  ww_or (h.mono fun c1 r1 G1 ⟨β, m, f, Q0, E, h0, h1, q⟩ => ⟨fun hc => by
    rw [if_neg (by rw [hc]; exact Bool.false_ne_true)] at h0
    exact (h1 hc _ (Out.sb h0)).monoT fun d r2 G2 ⟨m2, m3, m4⟩ => by subst m2 m3; exact q d m4, fun hc => by
    rw [if_pos hc] at h0
    exact q true h0⟩)
/-- {k: v for tg in e}, by a mirror with a state -/
theorem we_dcS {κ ν : Type} [DecidableEq κ] {scope : Scope} (own : List (Str × Nat)) (R : Env2) (gg : σT → GD) {en : α → D} (ek : κ → Key) (ev : ν → D) (hk : KInj ek) {Q : Res → Env2 → GD → Prop} (hc : X.calm = true) (hN : X.N.Nodup) (ok : BlkOk X.N X.env.scope scope own)
    (h : WI X tg e r G fun ds r2 G1 => ∃ (γ : Type) (xs : List α) (s0 : σT) (f : σT → α → Out (Option (κ × ν) × σT)) (kk : List (κ × ν) × σT → Out γ) (Q0 : γ → Prop) (E : Xm → Prop), ds = xs.map en ∧ xs.length ≤ LIM ∧ Wk (wipeD r2 (own.map (·.2))) R ∧ G1 = gg s0 ∧ ((Out.compS f xs [] s0).bind kk).sat Q0 E ∧
      (∀ s x (Q' : Option (κ × ν) × σT → Prop), (f s x).sat Q' E → Blk X scope fun Y => WG Y tg (en x) R (gg s) (own.map (·.2)) fun r3 G3 => match ifs with
        | [] => Blk X scope fun Y => WE Y kx r3 G3 fun z r4 G4 => ∃ k, z = .sh (kD (ek k)) ∧ Blk X scope fun Y => WE Y vx r4 G4 fun z r5 G5 => ∃ y s' r6, fz r5 z = some (ev y, r6) ∧ Wk (wipeD r6 (own.map (·.2))) R ∧ G5 = gg s' ∧ Q' (some (k, y), s')
        | [c] => Blk X scope fun Y => WT Y c r3 G3 fun b r4 G4 => (b = true → Blk X scope fun Y => WE Y kx r4 G4 fun z r5 G5 => ∃ k, z = .sh (kD (ek k)) ∧ Blk X scope fun Y => WE Y vx r5 G5 fun z r6 G6 => ∃ y s' r7, fz r6 z = some (ev y, r7) ∧ Wk (wipeD r7 (own.map (·.2))) R ∧ G6 = gg s' ∧ Q' (some (k, y), s')) ∧ (b = false → ∃ s', Wk (wipeD r4 (own.map (·.2))) R ∧ G4 = gg s' ∧ Q' (none, s'))
        | _ => False) ∧ ∀ p : List (κ × ν) × σT, (kk p).sat Q0 E → Q (.fr (eD ek ev (dmk p.1))) R (gg p.2))
    (hs : ∀ x, foldedSetIterable e X.env x = pure x := by intro _; rfl) : WE X (.DictComp kx vx [⟨tg, e, ifs, 0⟩] scope pos) r G Q :=
  WE.wkp (we_dc own hc hN ok (h.mono fun ds r2 G1 ⟨γ, xs, s0, f, kk, Q0, E, hd, hl, w, hg, h0, hb, hq⟩ => by
    subst hd hg
    refine ⟨fun k acc r3 G3 => ∃ ys s, Wk r3 R ∧ G3 = gg s ∧ acc = eDl ek ev (dmk ys) ∧ ys.length ≤ k ∧ ((Out.compS f (xs.drop k) ys s).bind kk).sat Q0 E, ⟨[], s0, w, rfl, rfl, Nat.le_refl _, h0⟩, fun k d acc r3 G3 hd ⟨ys, s, w3, hG, ha, hly, hq3⟩ => ?_, fun acc r3 G3 ⟨ys, s, w3, hG, ha, hly, hq3⟩ => ?_⟩
    · subst hG ha
      obtain ⟨x, hx, rfl⟩ := map_at hd
      have hlt : k < xs.length := (List.getElem?_eq_some_iff.mp hx).1
      rw [drop_at hx] at hq3
      have st := hb s x _ (compS_step hq3)
      have lim : (eDl ek ev (dmk ys)).length < LIM := by
        unfold eDl
        rw [List.length_map]
        have := dmk_len ys
        omega
      have snoc : ∀ (k : κ) (y : ν), putD (eDl ek ev (dmk ys)) (ek k) (ev y) = eDl ek ev (dmk (ys ++ [(k, y)])) := fun k y => by rw [putD_eDl hk, dmk_snoc]
      intro Y hY
      refine WG.mono (WG.weak w3 (st Y hY)) fun r4 G4 q' => ?_
      match ifs, q' with
      | [], q' =>
        refine fun Y hY => (q' Y hY).mono fun zz r5 G5 ⟨key, hz, q2⟩ => ⟨ek key, hz, fun Y hY => (q2 Y hY).mono fun zz r6 G6 ⟨y, s', r7, m1, m2, m3, m4⟩ => ⟨ev y, r7, m1, lim, ys ++ [(key, y)], s', m2, m3, snoc key y, by rw [List.length_append]; exact Nat.succ_le_succ hly, m4⟩⟩
      | [c], q' =>
        refine fun Y hY => (q' Y hY).mono fun b r5 G5 ⟨q1, q2⟩ => ⟨fun hb1 Y hY => ?_, fun hb0 => ?_⟩
        · exact (q1 hb1 Y hY).mono fun zz r6 G6 ⟨key, hz, q3⟩ => ⟨ek key, hz, fun Y hY => (q3 Y hY).mono fun zz r7 G7 ⟨y, s', r8, m1, m2, m3, m4⟩ => ⟨ev y, r8, m1, lim, ys ++ [(key, y)], s', m2, m3, snoc key y, by rw [List.length_append]; exact Nat.succ_le_succ hly, m4⟩⟩
        · obtain ⟨s', m2, m3, m4⟩ := q2 hb0
          exact ⟨ys, s', m2, m3, rfl, Nat.le_succ_of_le hly, m4⟩
      | _ :: _ :: _, q' => exact q'.elim
    · subst hG ha
      rw [List.length_map, List.drop_length] at hq3
      rw [eD_dicD]
      exact ⟨R, w3, (fun i z => by cases z), hq (ys, s) hq3⟩) hs)
end
open Out (Rt)
section
variable {prog : Program} {w : World} {A : Around} {E : Value → Shared → Prop} {s : Shared}
theorem nextOf_key_item {it d : Addr} {i n ep : Nat} {od : Obj} {es : Array DictEntry} {en : DictEntry} {Q : Value → Shared → Prop} (hit : s.heap.IsKeyIter it d i n ep) (hod : s.heap.get? d = some od) (hdd : od.data = .dict es ep)
    (hsz : es.size = n) (hx : es[i]? = some en) (hQ : ∀ h', h'.IsKeyIter it d (i + 1) n ep → Heap.SameBut it s.heap h' → Q en.key { s with heap := h' }) : wpAny (model prog w) A (Builtin.SmallTypes.nextOf (.ref it)) Q E s := by
  obtain ⟨o, ho, hc, hd⟩ := id hit
  unfold Builtin.SmallTypes.nextOf
  refine wpAny_bind (wpAny_callSpecial?_slot (name := Str.ofString "__next__") hit.typeIs F.slot_dict_keyiterator_next
    (wpAny_call_entry F.slot_dict_keyiterator_next hit.typeIs F.entry_dict_keyiterator_next ?_ (F.args_dict_keyiterator_next_1 _)))
  refine wpAny_bind (wpAny_pure ?_)
  refine wpAny_bind ?_
  refine wpAny_bind ?_
  first | refine wpAny_bind (wpAny_typeNameOfWhole_keyiter hit.typeIs (wpAny_pure ?_)) | refine wpAny_bind (wpAny_typeNameOf_keyiter hit.typeIs (wpAny_pure ?_))
  refine wpAny_bind (wpAny_fieldsOf ho hd ?_)
  have hown : Builtin.Dict_items.ownsTuple "dict_keyiterator" = false := by decide
  simp only [hown, Bool.false_eq_true, if_false]
  show wpAny _ _ (if (Value.ref d == Value.none) = true then _ else _) _ _ s
  rw [if_neg (show ¬ ((Value.ref d == Value.none) = true) from Bool.false_ne_true)]
  refine wpAny_bind (wpAny_pure ?_)
  refine wpAny_bind (wpAny_dictEntries hod hdd ?_)
  rw [if_neg (by rw [hsz]; simp)]
  refine wpAny_bind (wpAny_pure ?_)
  refine wpAny_bind (wpAny_dictEpoch hod hdd ?_)
  rw [if_neg (by simp)]
  refine wpAny_pure ?_
  obtain ⟨hlt', hen⟩ := Array.getElem?_eq_some_iff.mp hx
  simp only [show ¬ ((i : Int) < 0) from by omega, if_false, Int.toNat_natCast, Array.getElem?_eq_getElem hlt']
  refine wpAny_bind ?_
  first | refine wpAny_bind (wpAny_typeNameOfWhole_keyiter hit.typeIs (wpAny_pure ?_)) | refine wpAny_bind (wpAny_typeNameOf_keyiter hit.typeIs (wpAny_pure ?_))
  refine wpAny_bind (wpAny_isOneOf_keyiter hit.typeIs ?_)
  show wpAny _ _ (setField (.ref it) 1 (rawInt ((i : Int) + 1)) >>= _) _ _ s
  refine wpAny_bind (wpAny_setField ho hd (by simp) ?_)
  have hit' : (s.heap.update it (Obj.mapFields (·.setIfInBounds 1 (rawInt ((i : Int) + 1))))).IsKeyIter it d (i + 1) n ep :=
    ⟨_, Heap.get?_update_self _ ho (Obj.isFreed_of_fields (Obj.data_mapFields hd _)), (Obj.cls_mapFields ..).trans hc, by rw [Obj.data_mapFields hd]; simp [rawInt]⟩
  refine wpAny_bind (wpAny_holding ?_)
  refine wpAny_bind (wpAny_isOneOf_keyiter (s := { s with heap := s.heap.update it (Obj.mapFields (·.setIfInBounds 1 (rawInt ((i : Int) + 1)))) }) hit'.typeIs ?_)
  show wpAny _ _ (pure es[i].key) _ _ _
  rw [hen]
  exact wpAny_pure (wpAny_pure ⟨_, rfl, wpAny_pure (hQ _ hit' (Heap.SameBut.update ..))⟩)
theorem nextOf_key_end {it d : Addr} {i n ep : Nat} {od : Obj} {es : Array DictEntry} {Q : Value → Shared → Prop} (hh : A.handled = none) (hit : s.heap.IsKeyIter it d i n ep) (hod : s.heap.get? d = some od) (hdd : od.data = .dict es ep)
    (hsz : es.size = n) (hge : n ≤ i) (hE : ∀ h' e, Heap.ExtBut it s.heap h' → (∃ o, h'.get? e = some o ∧ o.cls = .type "StopIteration") → E (.ref e) { s with heap := h' }) : wpAny (model prog w) A (Builtin.SmallTypes.nextOf (.ref it)) Q E s := by
  obtain ⟨o, ho, hc, hd⟩ := id hit
  unfold Builtin.SmallTypes.nextOf
  refine wpAny_bind (wpAny_callSpecial?_slot (name := Str.ofString "__next__") hit.typeIs F.slot_dict_keyiterator_next
    (wpAny_call_entry F.slot_dict_keyiterator_next hit.typeIs F.entry_dict_keyiterator_next ?_ (F.args_dict_keyiterator_next_1 _)))
  refine wpAny_bind (wpAny_pure ?_)
  refine wpAny_bind ?_
  refine wpAny_bind ?_
  first | refine wpAny_bind (wpAny_typeNameOfWhole_keyiter hit.typeIs (wpAny_pure ?_)) | refine wpAny_bind (wpAny_typeNameOf_keyiter hit.typeIs (wpAny_pure ?_))
  refine wpAny_bind (wpAny_fieldsOf ho hd ?_)
  have hown : Builtin.Dict_items.ownsTuple "dict_keyiterator" = false := by decide
  simp only [hown, Bool.false_eq_true, if_false]
  show wpAny _ _ (if (Value.ref d == Value.none) = true then _ else _) _ _ s
  rw [if_neg (show ¬ ((Value.ref d == Value.none) = true) from Bool.false_ne_true)]
  refine wpAny_bind (wpAny_pure ?_)
  refine wpAny_bind (wpAny_dictEntries hod hdd ?_)
  rw [if_neg (by rw [hsz]; simp)]
  refine wpAny_bind (wpAny_pure ?_)
  refine wpAny_bind (wpAny_dictEpoch hod hdd ?_)
  rw [if_neg (by simp)]
  refine wpAny_pure ?_
  have hge' : es.size ≤ i := by rw [hsz]; exact hge
  simp only [show ¬ ((i : Int) < 0) from by omega, if_false, Int.toNat_natCast, Array.getElem?_eq_none hge']
  refine wpAny_bind ?_
  first | refine wpAny_bind (wpAny_typeNameOfWhole_keyiter hit.typeIs (wpAny_pure ?_)) | refine wpAny_bind (wpAny_typeNameOf_keyiter hit.typeIs (wpAny_pure ?_))
  show wpAny _ _ (setField (.ref it) 0 .none >>= _) _ _ s
  refine wpAny_bind (wpAny_setField ho hd (by simp) ?_)
  show wpAny _ _ (newExc (.type "StopIteration") [] >>= _) _ _ _
  refine wpAny_bind ?_
  simp only [newExc, newTuple]
  refine wpAny_bind (wpAny_newObj_type ?_ (by size_fits))
  refine wpAny_bind (m := firstArgMember _ _) (wpAny_of_eq (a := Value.none) (by first | rfl | (simp only [firstArgMember]; rfl)) ?_)
  refine wpAny_newObj_type ?_ (by size_fits)
  simp only [raiseNew]
  refine wpAny_bind (wpAny_handled ?_)
  rw [show A.in1.handled = none from hh]
  refine wpAny_bind (wpAny_pure (wpAny_throw ?_))
  exact hE _ _ (((Heap.SameBut.update ..).extBut.push _).push _) ⟨_, Heap.get?_push_size _ rfl, rfl⟩
theorem drawsK (hh : A.handled = none) (it d : Addr) (hne : d ≠ it) (od : Obj) (es : Array DictEntry) (ep : Nat) (hdd : od.data = .dict es ep) :
    Draws prog w A it [it, d] es.size (fun i v => ∃ en, es[i]? = some en ∧ v = en.key) (fun i h => h.IsKeyIter it d i es.size ep ∧ h.get? d = some od) where
  live := fun _ _ st => let ⟨o, ho, _⟩ := st.1; ⟨o, ho⟩
  frame := fun _ _ _ st hk => ⟨st.1.at fun o e => hk it (by simp) o e, hk d (by simp) od st.2⟩
  item := fun i s Q E hi st hQ => by
    refine nextOf_key_item st.1 st.2 hdd rfl (en := es[i]) (by simp [hi]) fun h' hit' hs' => ?_
    exact hQ _ h' s.toks ⟨_, by simp [hi], rfl⟩ ⟨hit', (hs'.2 d hne).trans st.2⟩ hs'
  done := fun s Q E st hE => nextOf_key_end hh st.1 st.2 hdd rfl (Nat.le_refl _) hE
abbrev kIt (d : Addr) (n ep : Nat) : Obj := { cls := .type "dict_keyiterator", data := .fields #[.ref d, .int 0 0, .int n 0, .int ep 0] }
theorem meets_enumK (d : Addr) (o : Obj) (es : Array DictEntry) (ep : Nat) (hd : (d == sysModules) = false) (hc : o.ExactDict) (hdat : o.data = .dict es ep) :
    Meets (Builtin.«enumerate.__new__» ⟨[.type "enumerate", .ref d], []⟩) (fun _ R s => s.heap.get? d = some o ∧
      R (.ok (.ret (.ref (s.heap.push (kIt d es.size ep)).objs.size))) { s with heap := (s.heap.push (kIt d es.size ep)).push (enO s.heap.objs.size) }) :=
  .of_wp fun prog w A R s h => by
    obtain ⟨c, dc, dt, sl⟩ := o
    obtain ⟨h1, h2⟩ := id hc
    cases h1
    obtain ⟨hp, g, dg, tk, os⟩ := s; obtain ⟨hl, h⟩ := h
    have sub := sub_enumerate
    wp_walk using AutoSeq1.wpAny_loadPart' hl
    refine wpAny_stack_any fun st => wpAny_pure ?_
    split
    · rename_i c _ _ _ _ _
      cases (c == Value.type "enumerate")
      all_goals
        wp_walk using AutoSeq1.wpAny_loadPart' hl, iter_keys hd hl hc hdat
        exact ⟨_, rfl, h⟩
    · wp_walk using AutoSeq1.wpAny_loadPart' hl, iter_keys hd hl hc hdat
      exact ⟨_, rfl, h⟩
theorem callEnumK {d : Addr} {o : Obj} {es : Array DictEntry} {ep : Nat} {Q : Value → Shared → Prop} (hd : (d == sysModules) = false) (ho : s.heap.get? d = some o) (hc : o.ExactDict) (hdat : o.data = .dict es ep)
    (h : ∀ h', IsEnum h' (s.heap.objs.size + 1) s.heap.objs.size 0 .none → h'.IsKeyIter s.heap.objs.size d 0 es.size ep → (∀ b o, s.heap.get? b = some o → h'.get? b = some o) → Q (.ref (s.heap.objs.size + 1)) { s with heap := h' }) :
    wpAny (model prog w) A (call (.type "enumerate") [.ref d]) Q E s := by
  refine callType_new F.called_enumerate (by decide) (F.typeCall_enumerate_1 _) (F.newCall_enumerate_1 _) (fun obj => F.args_object_init_2 obj _) F.entry_enumerate_new (meets_enumK d o es ep hd hc hdat) ⟨ho, ?_⟩
  have z : (s.heap.push (kIt d es.size ep)).objs.size = s.heap.objs.size + 1 := Heap.size_push ..
  show _ ∧ _
  rw [z]
  have he : IsEnum ((s.heap.push (kIt d es.size ep)).push (enO s.heap.objs.size)) (s.heap.objs.size + 1) s.heap.objs.size 0 .none := by
    have q := Heap.get?_push_size (s.heap.push (kIt d es.size ep)) (o := enO s.heap.objs.size) rfl
    rw [z] at q
    exact q
  exact ⟨⟨_, he, rfl⟩, h _ he ⟨_, Heap.get?_push_of_some _ (Heap.get?_push_size _ rfl), rfl, rfl⟩ fun b o x => Heap.get?_push_of_some _ (Heap.get?_push_of_some _ x)⟩
end
/-- the keys of the locked dict d, each in a new pair -/
def ItK2 (d : Addr) (o : Obj) (kvs : List (Key × V)) : It :=
  ⟨fun i H => H d = some (.frz o (.dK kvs)) ∧ i < kvs.length, fun i H v H' => ∃ T k x, v = .ref T ∧ H T = none ∧ H' = upd H T (.tup [.int (i : Nat), kV k]) ∧ kvs[i]? = some (k, x), fun i H => H d = some (.frz o (.dK kvs)) ∧ kvs.length = i⟩
theorem turn_enumK {P : Program} {w : World} {K : PySem.W.Frag} {elts : List Expr} {kk : Nat} {tpos : Pos} (d e it : Addr) (o : Obj) (es : Array DictEntry) (ep : Nat) (kvs : List (Key × V)) (hod : o.data = .dict es ep) (hde : d ≠ e) (hdi : d ≠ it) (hsz0 : es.size = kvs.length) :
    Turn P w K (.Tuple elts kk tpos) (ItK2 d o kvs) [e, it] e (fun i h => (∃ old, IsEnum h e it ((i : Nat) : Int) old) ∧ h.IsKeyIter it d i es.size ep ∧ e ≠ it) where
  mem := by simp
  obj := fun i h st b hb => by
    obtain ⟨⟨old, he⟩, ⟨o, ho, hc, hd⟩, _⟩ := st
    rcases (by simpa using hb : b = e ∨ b = it) with z | z
    · rw [z]; exact ⟨_, he, fun v q => nomatch q⟩
    · rw [z]; exact ⟨o, ho, fun v q => by rw [hd] at q; cases q⟩
  keep := fun i h h' ⟨⟨old, he⟩, hi, hne⟩ k => ⟨⟨old, k e (by simp) _ he⟩, hi.at fun o q => k it (by simp) o q, hne⟩
  item := by
    intro X hP hw hK hc i pins s σ H E I hf st hg
    subst hP hw hK
    obtain ⟨⟨old, he⟩, hit, hne⟩ := st
    obtain ⟨hd, hi⟩ := hg
    obtain ⟨hs, hgd, hx, es', ep', vs, hdt, hsz, kv, hm⟩ := I.frzK hd
    obtain ⟨rfl, rfl⟩ := dict_ep hod hdt
    obtain ⟨⟨k, v⟩, hkv⟩ : ∃ p, kvs[i]? = some p := ⟨kvs[i], List.getElem?_eq_getElem hi⟩
    obtain ⟨u, hu, ru⟩ := kv_get kv hkv
    have hel : e < s.heap.objs.size := Heap.lt_size he
    have hil : it < s.heap.objs.size := by obtain ⟨_, q, _⟩ := hit; exact Heap.lt_size q
    have dr := drawsK (prog := X.prog) (w := X.w) (A := X.A.in1) (I.ok.hd hc) it d hdi o es' ep' hod
    refine wpAny_pyNext_enum_itemD dr he ⟨hit, hgd⟩ (by rw [hsz]; exact hi) hne (by simp [hne, hde.symm]) fun x' h' tk ⟨en, hen, hx'⟩ ho hit' hT hsz' hk => ?_
    have rk : RelV (kV k) x' := by
      obtain ⟨od, es2, hod2, _, hdd2, _, hp, _⟩ := id hm
      rw [hgd] at hod2; cases hod2
      rw [hod] at hdd2; cases hdd2
      rw [hx']
      exact relV_key (show keyIs k en.key = true from (hp.get? (by rw [Array.getElem?_toList]; exact hen) hu).1)
    refine ⟨_, rfl, wpAny_letOwnedTupleGo_enum (s := { s with heap := h', toks := tk + 1 }) ho fun h'' he' sb => ?_⟩
    have hT2 : h''.get? s.heap.objs.size = some { cls := .type "tuple", data := .seq #[.int i tk, x'] } := (sb.2 _ (Nat.ne_of_gt hel)).trans hT
    have new : ObjOk X.prog X.w (upd H s.heap.objs.size (.tup [.int (i : Nat), kV k])) h'' s.heap.objs.size (.tup [.int (i : Nat), kV k]) :=
      ⟨by show 2 ≤ sizeLine; decide, [.int i tk, x'], .cons ⟨_, rfl⟩ (.cons rk .nil), ⟨_, hT2, rfl, _, rfl⟩⟩
    have I1 : Inv X pins σ (upd H s.heap.objs.size (.tup [.int (i : Nat), kV k])) { s with heap := h'', toks := tk + 1 } :=
      I.turnedNew (ch := [e, it]) (fun b ob hb q => (sb.2 b (fun z => hb (by simp [z]))).trans (hk b ob (fun z => hb (by simp [z])) (fun z => hb (by simp [z])) q)) hf (Nat.le_refl _) new
    refine ⟨.ref s.heap.objs.size, _, I1, rfl, ⟨_, k, v, rfl, I.hok.fresh (Nat.le_refl _), rfl, hkv⟩, ⟨⟨x', he'⟩, hit'.1.at fun o q => (sb.2 it (Ne.symm hne)).trans q, hne⟩, fun b hb => ?_⟩
    have hb' : b < s.heap.objs.size := by
      rcases (by simpa using hb : b = e ∨ b = it) with z | z
      · rw [z]; exact hel
      · rw [z]; exact hil
    rw [upd_ne (Nat.ne_of_lt hb')]
    exact (hf b hb).1
  done := by
    intro X hP hw hK hc i pins s σ H E I hf st hg
    subst hP hw hK
    obtain ⟨⟨old, he⟩, hit, hne⟩ := st
    obtain ⟨hd, hx⟩ := hg
    obtain ⟨hs, hgd, hx2, es', ep', vs, hdt, hsz, kv, hm⟩ := I.frzK hd
    obtain ⟨rfl, rfl⟩ := dict_ep hod hdt
    obtain ⟨f0, f1, f2, f3, f4, f5⟩ := hf it (by simp)
    have hl : es'.size = i := by rw [hsz]; exact hx
    subst hl
    exact wpAny_pyNext_enum_endD (drawsK (prog := X.prog) (w := X.w) (A := X.A.in1) (I.ok.hd hc) it d hdi o es' ep' hod) he ⟨hit, hgd⟩ fun h' eb => ⟨rfl, I.turned (t' := s.toks) (fun b o hb q => eb b o hb q) f0 f1 f3 f4 f5⟩
  self := fun A i s Q E ⟨⟨_, he⟩, _⟩ h => wpAny_pyIter_enum he h
def iEnumK (ta : TA) : TI := fun σ H R => ta σ H fun vs H1 => ∃ d o kvs, vs = [.ref d] ∧ H1 d = some (.frz o (.dK kvs)) ∧ R (ItK2 d o kvs) H1
theorem pi_enumK {X : Cx} {e : Expr} {ta : TA} {p pos tpos : Pos} {elts : List Expr} {kk : Nat} (hg : Gl X "enumerate") (hm : X.mg "enumerate" = none) (ha : PA X [e] ta) (hs : starEach [e] X.env = [(false, eval e X.env)] := by rfl) :
    PI X (.Tuple elts kk tpos) (.Call (.Name "enumerate" p) [e] [] pos) (iEnumK ta) := by
  refine ⟨fun pins s σ H R I h => ?_⟩
  refine Call_ (ld_blt I hg hm boot_enumerate (PyProof.Rows.callWith_type1 (thn (ha.run pos pins s σ H _ I h) fun us s1 ⟨vs, H1, I1, r1, q1⟩ => ?_) hs rfl))
  obtain ⟨d, o, kvs, ex, hd, q⟩ := q1
  subst ex
  cases r1 with
  | cons rl rr =>
    cases rr
    cases rl
    obtain ⟨hsy, hgd, hx, es, ep, vs, hdt, hsz, kv, hmm⟩ := I1.frzK hd
    have hdl : d < s1.heap.objs.size := Heap.lt_size hgd
    refine callEnumK hsy hgd hx hdt fun h' he hit hk => wpAny_pyIter_enum he ?_
    refine ⟨s1.heap.objs.size + 1, [s1.heap.objs.size + 1, s1.heap.objs.size], _, _, H1, rfl, I1.kept (t' := s1.toks) hk, turn_enumK d (s1.heap.objs.size + 1) s1.heap.objs.size o es ep kvs hdt (Nat.ne_of_lt (Nat.lt_succ_of_lt hdl)) (Nat.ne_of_lt hdl) hsz, ⟨⟨.none, he⟩, hit, Nat.succ_ne_self _⟩, fun b hb => ?_, q⟩
    have hle : s1.heap.objs.size ≤ b := by
      rcases (by simpa using hb : b = s1.heap.objs.size + 1 ∨ b = s1.heap.objs.size) with z | z
      · rw [z]; exact Nat.le_succ _
      · rw [z]; exact Nat.le_refl _
    exact I1.fpOk hle (I1.hok.fresh hle)
section
variable {X : Cy} {e a b c o tg kx vx elt i : Expr} {es ifs elts : List Expr} {kk : Nat} {st : Stmt} {sts rest body orelse : List Stmt} {r : Env2} {G : GD} {pos tpos apos cpos p0 : Pos} {D0 : EndsD} {α β γ σT ρ : Type}
theorem ti_enumD {κ ν : Type} {k : κ → Key} {f : ν → D} {Q : List D → Env2 → GD → Prop} (hg : Gl X "enumerate") (hm : X.mg "enumerate" = none) (h : WE X a r G fun x r1 G1 => ∃ (kvs : List (κ × ν)) (r2 : Env2), fz r1 x = some (eD k f kvs, r2) ∧ ((penum (kvs.map (·.1))).length ≤ LIM → Q ((penum (kvs.map (·.1))).map (eP eI fun x => kD (k x))) r2 G1)) (hst : starEach [a] X.env = [(false, eval a X.env)] := by rfl) :
    WI X (.Tuple elts kk tpos) (.Call (.Name "enumerate" p0) [a] [] pos) r G Q := fun F0 T F H σ lk S =>
  RunI.of (pi_enumK hg hm (pa_cons peR pa_nil hst) hst) ((h F0 T F H σ lk S).bl.mono fun v H1 ⟨bl, x, r1, G1, F1, e1, S1, k1, kvs, r2, q1, q2⟩ => by
    obtain ⟨Fa, e2, Sa, rp⟩ := S1.fz k1 q1
    obtain ⟨ad, ob, vs, rfl, z1, z2, z3⟩ := rp
    have hl : (kvs.map fun p => k p.1).length = vs.length := by rw [z3.length]; exact z2
    have hl2 : ((kvs.map fun p => k p.1).zip vs).length = kvs.length := by rw [zip_len hl, List.length_map]
    have hlim : kvs.length ≤ LIM := by have := bl.2.2 ad _ (.inr ⟨ob, Sa.bas.fh _ _ z1⟩); rw [hl2] at this; exact this
    have hpl : (penum (kvs.map (·.1))).length = kvs.length := by unfold penum; rw [penumF_len, List.length_map]
    have e9 : enumD 0 ((kvs.map (·.1)).map fun x => kD (k x)) = (penum (kvs.map (·.1))).map (eP eI fun x => kD (k x)) := enum_map _ 0
    rw [← e9] at q2
    refine ⟨ad, ob, _, rfl, Sa.bas.fh _ _ z1, enumD 0 ((kvs.map (·.1)).map fun x => kD (k x)), r2, G1, Fa, e1.trans e2, Sa, fun F H ea eh => ⟨⟨eh _ _ (ea _ _ z1), by rw [enumD_len, hl2, List.length_map, List.length_map]⟩, fun i d hi => ?_⟩, q2 (by rw [hpl]; exact hlim)⟩
    obtain ⟨d', hd, rfl⟩ := enumD_get hi
    rw [List.map_map, List.getElem?_map] at hd
    cases hk : kvs[i]? with
    | none => rw [hk] at hd; cases hd
    | some kv =>
      rw [hk] at hd; cases hd
      have hlt : i < kvs.length := (List.getElem?_eq_some_iff.mp hk).1
      refine ⟨⟨eh _ _ (ea _ _ z1), by rw [hl2]; exact hlt⟩, fun x H' ⟨p, key, y, hx, hp, hH, hy⟩ => .inr ⟨p, _, hp, hH, hx, ?_⟩⟩
      have := (zip_get' hy).1
      rw [List.getElem?_map, hk] at this; cases this
      rw [Nat.zero_add]
      exact rep_pair (none_F eh hp) rfl (kD_rep _))
end
open Out (Rt)
section
variable {X : Cy} {e a b c o tg kx vx elt i : Expr} {es ifs : List Expr} {st : Stmt} {sts rest body orelse : List Stmt} {r : Env2} {G : GD} {pos tpos apos cpos p0 : Pos} {D0 : EndsD} {α β γ σT ρ : Type}
theorem ResOk.newH {K : PySem.W.Frag} {T F : Hp} {G : GD} {H : Hp} {r : Env2} {σ : L2.St} {x : Res} {v : V} {p : Addr} {o : HO} (h : ResOk K T F G H r σ x v) (hp : H p = none) (hx : ∀ i, x ≠ .pk i) : ResOk K T F G (upd H p o) r σ x v := by
  cases x with
  | sh d => exact h
  | fr d =>
    obtain ⟨q, h1, h2, h3⟩ := h
    exact ⟨q, h1, h2.mono (Ex.refl _) fun o' e => by rw [upd_ne (ne_of_none e hp)]; exact e, h3⟩
  | pk i => exact absurd rfl (hx i)
/-- a, b = e1, e2 with names that are cells: by a tuple -/
theorem ws_parT (i j : Nat) {x y : Str} {px py pt : Pos} {kt k2 : Nat} {pt2 : Pos} (hc : X.calm = true) (nd : X.N.Nodup) (hi : X.N[i]? = some x) (hj : X.N[j]? = some y) (hx : L2.Loc X.env.scope x) (hy : L2.Loc X.env.scope y)
    (h : WE X a r G fun z r1 G1 => ∃ z' r2, nz r1 z = some (z', r2) ∧ WE X b r2 G1 fun w r3 G3 => ∃ w' r4, nz r3 w = some (w', r4) ∧ i < r4.length ∧ j < r4.length ∧ D0.nx ((r4.set i (slO z')).set j (slO w')) G3)
    (hfx : X.fn x = true ∨ X.env.scope.names.lookup x = some .local := by first | exact .inl rfl | exact .inr rfl | assumption) (hfy : X.fn y = true ∨ X.env.scope.names.lookup y = some .local := by first | exact .inl rfl | exact .inr rfl | assumption)
    (hn : (assignEach [.Name x px, .Name y py] X.env).length = 2 := by rfl) (hf : (assignEach [.Name x px, .Name y py] X.env).findIdx? (·.1) = none := by rfl)
    (hs : swapsWithSole [.Tuple [.Name x px, .Name y py] kt pt] (.Tuple [a, b] k2 pt2) pos.line X.env = pure false := by rfl) (hw : swappedStores [.Tuple [.Name x px, .Name y py] kt pt] (.Tuple [a, b] k2 pt2) X.env = pure none := by rfl)
    (h1 : (assignEach [.Tuple [.Name x px, .Name y py] kt pt] X.env).map (·.2) = [assign (.Tuple [.Name x px, .Name y py] kt pt) X.env] := by rfl)
    (s1 : starEach [a, b] X.env = (false, eval a X.env) :: starEach [b] X.env := by rfl) (s2 : starEach [b] X.env = (false, eval b X.env) :: starEach [] X.env := by rfl) :
    WS X (.Assign [.Tuple [.Name x px, .Name y py] kt pt] (.Tuple [a, b] k2 pt2) pos) r G D0 := fun F0 T F H σ lk S =>
  RunS.of (ps_asg (pe_tup (pa_cons peR (pa_cons peR pa_nil s2) s1)) (pg_tup hc (pgs_run (ixs := [i, j]) (.cons (pg_name nd hi hx hfx) (.cons (pg_name nd hj hy hfy) .nil)) (fun t ht ts => by
    rcases List.mem_cons.mp ht with z | z
    · subst z; rfl
    · rcases List.mem_cons.mp z with z | z
      · subst z; rfl
      · simp at z)) hn hf) hs hw h1) ((h F0 T F H σ lk S).mono fun v H1 ⟨z, r1, G1, F1, e1, S1, k1, z', r2, q1, q2⟩ => by
    obtain ⟨F2, e2, S2, k2, hz⟩ := S1.nz k1 q1
    obtain ⟨T', tx, S2', hold⟩ := holdT S2 k2 hz
    refine (q2 F0 T' F2 H1 σ (lk.ext tx) S2').mono fun w H3 ⟨u, r3, G3, F3, e3, S3, k3, w', r4, q3, hi', hj', q4⟩ => ?_
    obtain ⟨F4, e4, S4, k4, hz4⟩ := S3.nz k3 q3
    obtain ⟨S5, m1, m2⟩ := hold F4 G3 H3 r4 σ (e3.trans e4) S4
    obtain ⟨m3, m4⟩ := m2 w' w k4
    refine ⟨(by show 2 ≤ sizeLine; decide), fun p hp => ⟨p, [v, w], rfl, .inl (.inl upd_same), rfl, rfl, ?_⟩⟩
    exact ⟨_, G3, F4, ((S5.newH hp).setR (m1.newH hp hz) hi' hz).setR ((m3.newH hp hz4).setR hi' S5.len hz hz4 m4) (by rw [List.length_set]; exact hj') hz4, q4⟩)
/-- {k: v, ..}, typed -/
def WPrT (X : Cy) {κ ν : Type} (k : κ → Key) (f : ν → D) : List Expr → List Expr → Env2 → GD → (List (κ × ν) → Env2 → GD → Prop) → Prop
  | a :: ks, v :: vs, r, G, Q => WE X a r G fun x r1 G1 => ∃ key, x = .sh (kD (k key)) ∧ WE X v r1 G1 fun y r2 G2 => ∃ d r3, fz r2 y = some (f d, r3) ∧ WPrT X k f ks vs r3 G2 fun ps r4 G4 => Q ((key, d) :: ps) r4 G4
  | _, _, r, G, Q => Q [] r G
theorem wpr_nil {κ ν : Type} {k : κ → Key} {f : ν → D} {Q : List (κ × ν) → Env2 → GD → Prop} (q : Q [] r G) : WPrT X k f [] [] r G Q := q
theorem wpr_cons {κ ν : Type} {k : κ → Key} {f : ν → D} {v : Expr} {ks vs : List Expr} {Q : List (κ × ν) → Env2 → GD → Prop} (h : WE X a r G fun x r1 G1 => ∃ key, x = .sh (kD (k key)) ∧ WE X v r1 G1 fun y r2 G2 => ∃ d r3, fz r2 y = some (f d, r3) ∧ WPrT X k f ks vs r3 G2 fun ps r4 G4 => Q ((key, d) :: ps) r4 G4) : WPrT X k f (a :: ks) (v :: vs) r G Q := h
theorem wpr_of {κ ν : Type} {k : κ → Key} {f : ν → D} : ∀ (ks vs : List Expr) {r : Env2} {G : GD} {Q : List (κ × ν) → Env2 → GD → Prop} {Q' : List (Key × D) → Env2 → GD → Prop}, WPrT X k f ks vs r G Q → (∀ kvs r G, Q kvs r G → Q' (eDl k f kvs) r G) → WPr X ks vs r G Q'
  | [], [], _, _, _, _, h, m => m [] _ _ h
  | [], _ :: _, _, _, _, _, h, m => m [] _ _ h
  | _ :: _, [], _, _, _, _, h, m => m [] _ _ h
  | a :: ks, v :: vs, r, G, Q, Q', h, m => (show WE X a r G _ from h).mono fun x r1 G1 ⟨key, hx, h1⟩ => ⟨k key, hx, h1.mono fun y r2 G2 ⟨d, r3, e, h2⟩ => ⟨f d, r3, e, wpr_of ks vs h2 fun kvs r G q => m _ r G q⟩⟩
section
variable {κ ν : Type} [DecidableEq κ] {k : κ → Key} {f : ν → D} {a1 a2 a3 v1 v2 v3 : Expr} {Q : Res → Env2 → GD → Prop}
theorem we_dispT1 (hk : KInj k) (h : WPrT X k f [a1] [v1] r G fun kvs r1 G1 => Q (.fr (eD k f (dmk kvs))) r1 G1) : WE X (.Dict [some a1] [v1] pos) r G Q :=
  we_disp1 (wpr_of _ _ h fun kvs r G q => disp_of hk kvs (P := fun d => Q (.fr d) r G) q)
end
/-- d.get(k, x), typed -/
theorem we_dgetT {κ ν : Type} [DecidableEq κ] {k : κ → Key} {f : ν → D} (hk : KInj k) (hu : X.A.units + 64 < cLine) {Q : Res → Env2 → GD → Prop}
    (h : WE X o r G fun x r1 G1 => ∃ kvs, VwR r1 G1 x (eD k f kvs) ∧ WE X a r1 G1 fun y r2 G2 => ∃ key, y = .sh (kD (k key)) ∧ WE X b r2 G2 fun z r3 G3 => ∃ d r4 kvs, fz r3 z = some (f d, r4) ∧ VwR r4 G3 x (eD k f kvs) ∧ Q (.sh (f ((dget kvs key).getD d))) r4 G3)
    (base : attributeBase o "get" X.env (eval o X.env) = eval o X.env := by rfl)
    (few : ((backTo cpos (starEach [a, b] X.env)).all (fun x => !x.1) && (backToKw cpos (keywordEach [] X.env)).all (fun x => x.1.isSome) && decide (([a, b] : List Expr).length + ([] : List Keyword).length + (if ([] : List Keyword).isEmpty then 0 else 1) < 30)) = true := by rfl)
    (line : (apos.endLine == cpos.line) = true := by rfl) (trees : backTo cpos (starEach [a, b] X.env) = [(false, eval a X.env), (false, eval b X.env)] := by rfl) : WE X (.Call (.Attribute o "get" apos) [a, b] [] cpos) r G Q :=
  we_dget2 hk hu (h.mono fun x r1 G1 ⟨kvs, q1, h1⟩ => ⟨kvs, q1, h1.mono fun y r2 G2 ⟨key, q2, h2⟩ => ⟨key, q2, h2.mono fun z r3 G3 ⟨d, r4, kvs, q3, q4, q5⟩ => ⟨f d, r4, kvs, q3, q4, by
    cases hd : dget kvs key with
    | none => rw [hd] at q5; exact q5
    | some v => rw [hd] at q5; exact q5⟩⟩⟩) base few line trees
end
open Out (Rt)
section
variable {X : Cy} {e a b c o tg kx vx elt i : Expr} {es ifs : List Expr} {st : Stmt} {sts rest body orelse : List Stmt} {r : Env2} {G : GD} {pos tpos apos cpos p0 : Pos} {D0 : EndsD} {α β γ σT ρ : Type}
theorem ints_rep {K : PySem.W.Frag} {F : Hp} : ∀ (ns : List Int), RepL K F (ns.map D.int) (ns.map V.int)
  | [] => rfl
  | n :: ns => ⟨_, _, rfl, rfl, ints_rep ns⟩
theorem Vw.scr {K : PySem.W.Frag} {F H : Hp} (ex : Ex F H) {ns : List Int} {v : V} (h : Vw K F H (.scr ns) v) : ∃ a, v = .ref a ∧ SqL K H a (ns.map V.int) := by
  rcases h with ⟨a, h1, h2⟩ | ⟨_, _, h⟩
  · exact ⟨a, h1, ex.sqL h2⟩
  · exact h.elim
theorem c_lenR {ns : List Int} {Q : Res → Prop} (q : Q (.sh (.int (ns.length : Nat)))) : CallW1 X (.builtin "len") (.scr ns) Q :=
  c1_flat (d' := .int (ns.length : Nat)) (v' := .int (ns.length : Nat)) (fun _ _ => rfl) (fun F H v ex h => by
    obtain ⟨p, rfl, k1⟩ := h.scr ex
    exact ⟨_, call_len_seq, fun P hp => ⟨p, _, rfl, .inl k1, by rw [List.length_map]; exact hp⟩⟩) q
theorem c_listR {ns : List Int} {Q : Res → Prop} (q : Q (.fr (.lst (ns.map D.int)))) : CallW1 X (.type "list") (.scr ns) Q := fun F0 T F G H r σ v S hv => by
  obtain ⟨p, rfl, k1⟩ := hv.scr S.bas.fh
  exact ⟨_, call_list_of, p, _, rfl, .inl k1, fun l hl => new_lst S (ints_rep ns) hl q⟩
theorem wi_scr {Q : List D → Env2 → GD → Prop} (h : WE X e r G fun x r1 G1 => ∃ ns r2, fz r1 x = some (.scr ns, r2) ∧ Q (ns.map D.int) r2 G1) : WI X tg e r G Q := fun F0 T F H σ lk S =>
  RunI.of (pi_list peR) ((h F0 T F H σ lk S).mono fun v H1 ⟨x, r1, G1, F1, e1, S1, k1, ns, r2, q1, q2⟩ => by
    obtain ⟨Fa, e2, Sa, rp⟩ := S1.fz k1 q1
    obtain ⟨a, rfl, z1⟩ := rp
    refine ⟨a, rfl, ⟨_, Sa.bas.fh.sqL z1⟩, ns.map D.int, r2, G1, Fa, e1.trans e2, Sa, fun F H ea eh => ⟨⟨_, eh.sqL (ea.sqL z1), by rw [List.length_map, List.length_map]; exact Nat.le_refl _⟩, fun i d hi => ?_⟩, q2⟩
    rw [List.getElem?_map] at hi
    cases hn : ns[i]? with
    | none => rw [hn] at hi; cases hi
    | some n =>
      rw [hn] at hi; cases hi
      exact ⟨⟨_, .int n, eh.sqL (ea.sqL z1), by rw [List.getElem?_map, hn]; rfl⟩, fun x H' ⟨y1, y2⟩ => .inl ⟨y1, by
        have := y2 _ (eh.sqL (ea.sqL z1))
        rw [List.getElem?_map, hn] at this; cases this; rfl⟩⟩)
end
instance instRgOk (a b : Int) : Decidable (RgOk a b) := by unfold RgOk; infer_instance
/-- the def that makes the box -/
def FBegun (m : List Int → Bx) : FSp := fun ds G post _ => ∃ ns, ds = [.scr ns] ∧ ∀ b g, g ≠ b → G b = none → G g = none → post (.sh (.adr b)) (bxG G b g (m ns))
/-- a law: the script in, a truth value out; nothing is said of the open region behind it -/
def FLaw (f : List Int → Out Bool) : FSp := fun ds _ post _ => ∃ ns, ds = [.scr ns] ∧ (f ns).sat (fun v => ∀ G', post (.sh (.bl v)) G') (fun _ => False)
open Out (Rt)
def alB : Nat → D → Bool
  | _, .non => true
  | _, .bl _ => true
  | _, .int _ => true
  | _, .str _ => true
  | n + 1, .tup ds => decide (ds.length ≤ LIM) && ds.all (alB n)
  | n + 1, .lst ds => decide (ds.length ≤ LIM) && ds.all (alB n)
  | _, _ => false
def alikeF (n : Nat) : FSp := fun ds G post _ => ∃ d, ds = [d, d] ∧ alB n d = true ∧ post (.sh (.bl true)) G
open Out (Rt)
structure FlC {α : Type} (en : α → D) (vf : α → V) : Prop where
  rep : ∀ (K : PySem.W.Frag) (F : Hp) (a : α) (v : V), Rep K F (en a) v → v = vf a
  nown : ∀ (K : PySem.W.Frag) (F H : Hp) (p : Addr) (a : α), ¬ Own K F H p (en a)
  flat : ∀ a, flatV (vf a) = true
  eq : ∀ a b, eqV (vf a) (vf b) = true ↔ a = b
section
variable {X : Cy} {α : Type} [DecidableEq α] {en : α → D} {vf : α → V}
theorem FlC.all (h : FlC en vf) {K : PySem.W.Frag} {F : Hp} : ∀ {xs : List α} {vs : List V}, RepL K F (xs.map en) vs → vs = xs.map vf
  | [], _, e => e
  | x :: xs, _, ⟨v, r, e1, e2, e3⟩ => by subst e1; rw [h.rep K F x v e2, h.all e3]; rfl
end
open Out (Rt)
section
variable {X : Cy} {e a b c o tg kx vx elt i : Expr} {es ifs : List Expr} {st : Stmt} {sts rest body orelse : List Stmt} {r : Env2} {G : GD} {pos tpos apos cpos p0 : Pos} {D0 : EndsD} {α β γ σT ρ : Type}
/-- results that are held together -/
def NzL (K : PySem.W.Frag) (T F : Hp) (G : GD) (H : Hp) (r : Env2) (σ : L2.St) : List Res → List V → Prop
  | [], vs => vs = []
  | z :: zs, vs => ∃ v us, vs = v :: us ∧ ResOk K T F G H r σ z v ∧ (∀ i, z ≠ .pk i) ∧ (∀ z2 v2, (z2, v2) ∈ zs.zip us → ∀ d d2, z = .fr d → z2 = .fr d2 → v ≠ v2) ∧ NzL K T F G H r σ zs us
theorem NzL.len {K : PySem.W.Frag} {T F : Hp} {G : GD} {H : Hp} {r : Env2} {σ : L2.St} : ∀ {zs : List Res} {vs : List V}, NzL K T F G H r σ zs vs → vs.length = zs.length
  | [], _, h => by rw [show _ = [] from h]; rfl
  | _ :: _, _, ⟨v, us, e, _, _, _, h⟩ => by rw [e, List.length_cons, List.length_cons, h.len]
theorem NzL.mem {K : PySem.W.Frag} {T F : Hp} {G : GD} {H : Hp} {r : Env2} {σ : L2.St} : ∀ {zs : List Res} {vs : List V}, NzL K T F G H r σ zs vs → ∀ z v, (z, v) ∈ zs.zip vs → ResOk K T F G H r σ z v ∧ ∀ i, z ≠ .pk i
  | [], _, _, z, v, hm => by simp at hm
  | _ :: _, _, ⟨v0, us, e, h1, h2, _, h⟩, z, v, hm => by
    subst e
    rw [List.zip_cons_cons, List.mem_cons] at hm
    rcases hm with hm | hm
    · cases hm; exact ⟨h1, h2⟩
    · exact h.mem z v hm
theorem NzL.map {K : PySem.W.Frag} {T T' F : Hp} {G : GD} {H : Hp} {r : Env2} {σ : L2.St} (f : ∀ z v, ResOk K T F G H r σ z v → ResOk K T' F G H r σ z v) : ∀ {zs : List Res} {vs : List V}, NzL K T F G H r σ zs vs → NzL K T' F G H r σ zs vs
  | [], _, h => h
  | _ :: _, _, ⟨v, us, e, h1, h2, h3, h⟩ => ⟨v, us, e, f _ _ h1, h2, h3, h.map f⟩
theorem NzL.newH {K : PySem.W.Frag} {T F : Hp} {G : GD} {H : Hp} {r : Env2} {σ : L2.St} {p : Addr} {o : HO} (hp : H p = none) : ∀ {zs : List Res} {vs : List V}, NzL K T F G H r σ zs vs → NzL K T F G (upd H p o) r σ zs vs
  | [], _, h => h
  | _ :: _, _, ⟨v, us, e, h1, h2, h3, h⟩ => ⟨v, us, e, h1.newH hp h2, h2, h3, h.newH hp⟩
theorem NzL.setR {K : PySem.W.Frag} {T F : Hp} {G : GD} {H : Hp} {r : Env2} {σ : L2.St} {z : Res} {v : V} {i : Nat} (hi : i < r.length) (hl : r.length = σ.length) (hz : ∀ i, z ≠ .pk i) : ∀ {zs : List Res} {vs : List V}, (∀ z2 v2, (z2, v2) ∈ zs.zip vs → ∀ d d2, z = .fr d → z2 = .fr d2 → v ≠ v2) → NzL K T F G H r σ zs vs → NzL K T F G H (r.set i (slO z)) (σ.set i (some v)) zs vs
  | [], _, _, h => h
  | z2 :: zs, _, hd, ⟨v2, us, e, h1, h2, h3, h⟩ => by
    subst e
    exact ⟨v2, us, rfl, h1.setR hi hl hz h2 (hd z2 v2 (by simp)), h2, h3, h.setR hi hl hz fun z3 v3 hm => hd z3 v3 (by rw [List.zip_cons_cons]; exact List.mem_cons_of_mem _ hm)⟩
theorem setAllR {K : PySem.W.Frag} {F0 T F : Hp} {G : GD} {H : Hp} : ∀ (ixs : List Nat) (zs : List Res) (vs : List V) (r : Env2) (σ : L2.St), Sta K F0 T F G H r σ → NzL K T F G H r σ zs vs → (∀ i, i ∈ ixs → i < r.length) → Sta K F0 T F G H ((ixs.zip zs).foldl (fun r p => r.set p.1 (slO p.2)) r) ((ixs.zip vs).foldl (fun s p => s.set p.1 (some p.2)) σ)
  | [], _, _, r, σ, S, _, _ => by simpa using S
  | i :: ixs, [], _, r, σ, S, h, _ => by rw [show _ = [] from h]; simpa using S
  | i :: ixs, z :: zs, _, r, σ, S, ⟨v, us, e, h1, h2, h3, h⟩, hi => by
    subst e
    rw [List.zip_cons_cons, List.zip_cons_cons, List.foldl_cons, List.foldl_cons]
    have hl := hi i List.mem_cons_self
    exact setAllR ixs zs us _ _ (S.setR h1 hl h2) (h.setR hl S.len h2 h3) fun j hj => by rw [List.length_set]; exact hi j (List.mem_cons_of_mem _ hj)
def WN (X : Cy) (es : List Expr) (r : Env2) (G : GD) (Q : List Res → Env2 → GD → Prop) : Prop :=
  ∀ (F0 T F H : Hp) (σ : L2.St), Lk X F0 T → Sta X.K F0 T F G H r σ → RunA X es σ H fun vs H' => ∃ zs r' G' F', Ex F F' ∧ Sta X.K F0 T F' G' H' r' σ ∧ NzL X.K T F' G' H' r' σ zs vs ∧ Q zs r' G'
theorem wn_nil {Q : List Res → Env2 → GD → Prop} (q : Q [] r G) : WN X [] r G Q := fun F0 T F H σ lk S => RunA.of pa_nil ⟨[], r, G, F, Ex.refl _, S, rfl, q⟩
theorem wn_cons {Q : List Res → Env2 → GD → Prop} (h : WE X a r G fun z r1 G1 => ∃ z' r2, nz r1 z = some (z', r2) ∧ WN X es r2 G1 fun zs r3 G3 => Q (z' :: zs) r3 G3) (hs : starEach (a :: es) X.env = (false, eval a X.env) :: starEach es X.env := by rfl) : WN X (a :: es) r G Q := fun F0 T F H σ lk S =>
  RunA.of (pa_cons peR paR hs) ((h F0 T F H σ lk S).mono fun v H1 ⟨z, r1, G1, F1, e1, S1, k1, z', r2, q1, q2⟩ => by
    obtain ⟨F2, e2, S2, k2, hz⟩ := S1.nz k1 q1
    obtain ⟨T', tx, S2', hold⟩ := holdT S2 k2 hz
    refine (q2 F0 T' F2 H1 σ (lk.ext tx) S2').mono fun ws H3 ⟨zs, r3, G3, F3, e3, S3, k3, q3⟩ => ?_
    obtain ⟨S4, m1, m2⟩ := hold F3 G3 H3 r3 σ e3 S3
    exact ⟨z' :: zs, r3, G3, F3, (e1.trans e2).trans e3, S4, ⟨v, ws, rfl, m1, hz, fun z2 v2 hm => (m2 z2 v2 (k3.mem z2 v2 hm).1).2, k3.map fun z2 v2 k => (m2 z2 v2 k).1⟩, q3⟩)
/-- a, b, .. = e1, e2, .. by a tuple -/
theorem ws_parN {ts : List Expr} {kt k2 : Nat} {pt pt2 : Pos} (ixs : List Nat) (hc : X.calm = true) (hp : All2 (fun t i => PG X t (gName i)) ts ixs) (hst : ∀ t ∈ ts, ∀ us, (assignEach (t :: us) X.env).map (·.2) = assign t X.env :: (assignEach us X.env).map (·.2))
    (h : WN X es r G fun zs r1 G1 => zs.length = ixs.length ∧ zs.length ≤ 100 ∧ (∀ i, i ∈ ixs → i < r1.length) ∧ D0.nx ((ixs.zip zs).foldl (fun r p => r.set p.1 (slO p.2)) r1) G1)
    (hn : (assignEach ts X.env).length = ixs.length := by rfl) (hf : (assignEach ts X.env).findIdx? (·.1) = none := by rfl)
    (hs : swapsWithSole [.Tuple ts kt pt] (.Tuple es k2 pt2) pos.line X.env = pure false := by rfl) (hw : swappedStores [.Tuple ts kt pt] (.Tuple es k2 pt2) X.env = pure none := by rfl)
    (h1 : (assignEach [.Tuple ts kt pt] X.env).map (·.2) = [assign (.Tuple ts kt pt) X.env] := by rfl) :
    WS X (.Assign [.Tuple ts kt pt] (.Tuple es k2 pt2) pos) r G D0 := fun F0 T F H σ lk S =>
  RunS.of (ps_asg (pe_tup paR) (pg_tup hc (pgs_run hp hst) hn hf) hs hw h1) ((h F0 T F H σ lk S).mono fun vs H1 ⟨zs, r1, G1, F1, e1, S1, k1, q1, q2, q3, q4⟩ => by
    refine ⟨(by rw [k1.len]; show _ ≤ 16777216; omega), fun p hp => ⟨p, vs, rfl, .inl (.inl upd_same), by rw [k1.len]; exact q1, by rw [k1.len]; exact q1, ?_⟩⟩
    exact ⟨_, G1, F1, setAllR ixs zs vs r1 σ (S1.newH hp) (k1.newH hp) q3, q4⟩)
theorem all_lt {ixs : List Nat} {n : Nat} {r : Env2} (h : r.length = n) (k : ixs.all (fun i => decide (i < n)) = true) : ∀ i, i ∈ ixs → i < r.length := fun i hi => by
  have := List.all_eq_true.mp k i hi
  rw [h]; simpa using this
def RunGs (X : Cx) (ts : List Expr) : TGs := fun vs σ H Q => ∀ (pins : List (Addr × Obj)) (s : Shared) (us : List Value), Inv X pins σ H s → Vals vs us → wpAny (model X.prog X.w) X.A (assignInOrder ((assignEach ts X.env).map (·.2)) us) (fun _ s' => ∃ σ' H', Inv X pins σ' H' s' ∧ Q σ' H') X.xe s
theorem RunG.mono {X : Cx} {tg : Expr} {v : V} {σ : L2.St} {H : Hp} {Q Q' : L2.St → Hp → Prop} (h : RunG X tg v σ H Q) (k : ∀ σ' H', Q σ' H' → Q' σ' H') : RunG X tg v σ H Q' := fun pins s u I rv => wpAny_mono (h pins s u I rv) (fun _ _ ⟨σ', H', I', q⟩ => ⟨σ', H', I', k σ' H' q⟩) fun _ _ x => x
theorem RunGs.mono {X : Cx} {ts : List Expr} {vs : List V} {σ : L2.St} {H : Hp} {Q Q' : L2.St → Hp → Prop} (h : RunGs X ts vs σ H Q) (k : ∀ σ' H', Q σ' H' → Q' σ' H') : RunGs X ts vs σ H Q' := fun pins s us I rv => wpAny_mono (h pins s us I rv) (fun _ _ ⟨σ', H', I', q⟩ => ⟨σ', H', I', k σ' H' q⟩) fun _ _ x => x
end
open Out (Rt)
section
variable {X : Cy} {e a b c o tg kx vx elt i : Expr} {es ifs : List Expr} {st : Stmt} {sts rest body orelse : List Stmt} {r : Env2} {G : GD} {pos tpos apos cpos p0 : Pos} {D0 : EndsD} {α β γ σT ρ : Type}
/-- lo, lo + c, .. as long as it is on this side of hi -/
def rgS (lo hi c : Int) : List Int := (List.range (Builtin.Range.rangeSize lo hi c).toNat).map fun i => lo + (i : Nat) * c
theorem rgS_get {lo hi c : Int} {i : Nat} {x : Int} (h : (rgS lo hi c)[i]? = some x) : i < (Builtin.Range.rangeSize lo hi c).toNat ∧ x = lo + (i : Nat) * c := by
  unfold rgS at h
  rw [List.getElem?_map] at h
  cases q : (List.range (Builtin.Range.rangeSize lo hi c).toNat)[i]? with
  | none => rw [q] at h; cases h
  | some j =>
    rw [q] at h
    obtain ⟨z1, z2⟩ := List.getElem?_eq_some_iff.mp q
    rw [List.length_range] at z1
    rw [List.getElem_range] at z2
    subst z2
    exact ⟨z1, by simpa using h.symm⟩
theorem rgS_len (lo hi c : Int) : (rgS lo hi c).length = (Builtin.Range.rangeSize lo hi c).toNat := by unfold rgS; rw [List.length_map, List.length_range]
theorem itd_rangeS {K : PySem.W.Frag} {Fa : Hp} {lo hi c : Int} {n : Nat} (hn : n = (Builtin.Range.rangeSize lo hi c).toNat) : ItD K (Itc lo c n) Fa ((rgS lo hi c).map D.int) := fun F H ea eh =>
  ⟨by rw [List.length_map, rgS_len, ← hn]; exact Nat.le_refl _, fun i d hd => by
    rw [List.getElem?_map] at hd
    cases q : (rgS lo hi c)[i]? with
    | none => rw [q] at hd; cases hd
    | some x =>
      rw [q] at hd
      obtain ⟨z1, rfl⟩ := rgS_get q
      cases hd
      exact ⟨by rw [hn]; exact z1, fun y H' ⟨y1, y2⟩ => .inl ⟨y1, y2⟩⟩⟩
instance instRgC (i j c : Int) (n : Nat) : Decidable (RgC i j c n) := by unfold RgC; infer_instance
theorem wi_rng3 {Q : List D → Env2 → GD → Prop} (hg : Gl X "range") (hm : X.mg "range" = none)
    (h : WE X a r G fun x r1 G1 => WE X b r1 G1 fun y r2 G2 => WE X c r2 G2 fun z r3 G3 => ∃ lo n k, vw r3 x = some (.int lo) ∧ vw r3 y = some (.int n) ∧ vw r3 z = some (.int k) ∧ RgC lo n k (Builtin.Range.rangeSize lo n k).toNat ∧ Q ((rgS lo n k).map D.int) r3 G3)
    (s1 : starEach [a, b, c] X.env = (false, eval a X.env) :: starEach [b, c] X.env := by rfl) (s2 : starEach [b, c] X.env = (false, eval b X.env) :: starEach [c] X.env := by rfl) (s3 : starEach [c] X.env = (false, eval c X.env) :: starEach [] X.env := by rfl) (hpl : (backTo pos (starEach [b, c] X.env)).any (fun x => x.1) = false := by rfl) : WI X tg (.Call (.Name "range" p0) [a, b, c] [] pos) r G Q := fun F0 T F H σ lk S =>
  RunI.of (pi_range3 hg hm (pa_cons peR (pa_cons peR (pa_cons peR pa_nil s3) s2) s1) s1 hpl) ((h F0 T F H σ lk S).mono fun v H1 ⟨x, r1, G1, F1, e1, S1, k1, h1⟩ => by
    obtain ⟨F1', e1', S1', hv⟩ := hold S1 k1
    refine (h1 F0 T F1' H1 σ lk S1').mono fun v2 H2 ⟨y, r2, G2, F2, e2, S2, k2, h2⟩ => ?_
    obtain ⟨F2', e2', S2', hv2⟩ := hold S2 k2
    refine (h2 F0 T F2' H2 σ lk S2').mono fun v3 H3 ⟨z, r3, G3, F3, e3, S3, k3, lo, n, k, q1, q2, q3, hr, q4⟩ => ?_
    exact ⟨lo, n, k, _, by rw [(hv F3 G3 H3 r3 _ ((e2.trans e2').trans e3) S3 (.inl q1)).int, (hv2 F3 G3 H3 r3 _ e3 S3 (.inl q2)).int, (S3.view k3 q3).int], hr, _, r3, G3, F3, (((e1.trans e1').trans e2).trans e2').trans e3, S3, itd_rangeS rfl, q4⟩)
end
open Out (Rt)
structure OrC {α : Type} (en : α → D) (n : Nat) : Prop where
  eqc : EqC en n
  al : ∀ a b, PySem.W.alike (toP (en a)) (toP (en b)) = true
  nn : ∀ a, toP (en a) ≠ .none
  dp : ∀ a, (toP (en a)).depth ≤ n
section
variable {α β γ : Type}
def ltC (en : α → D) (a b : α) : Bool := PySem.W.dataLt (toP (en a)) (toP (en b))
def leC (en : α → D) (a b : α) : Bool := !ltC en b a
theorem orc_int : OrC eI 0 := ⟨eqc_int, fun _ _ => rfl, (fun _ h => nomatch h), fun a => (by show PyData.depth (toP (eI a)) ≤ 0; simp [toP, PyData.depth])⟩
theorem orc_str : OrC eZ 0 := ⟨eqc_str, fun _ _ => rfl, (fun _ h => nomatch h), fun a => (by show PyData.depth (toP (eZ a)) ≤ 0; simp [toP, PyData.depth])⟩
theorem orc_pair {f : α → D} {g : β → D} {n : Nat} (h : OrC f n) (k : OrC g n) : OrC (eP f g) (n + 1) := by
  refine ⟨eqc_pair h.eqc k.eqc, fun a b => ?_, (fun _ z => nomatch z), fun a => ?_⟩
  · show PySem.W.alike (.tuple [toP (f a.1), toP (g a.2)]) (.tuple [toP (f b.1), toP (g b.2)]) = true
    simp [PySem.W.alike, PySem.W.alikeAll, h.al, k.al]
  · show PyData.depth (.tuple [toP (f a.1), toP (g a.2)]) ≤ n + 1
    have h1 := h.dp a.1
    have h2 := k.dp a.2
    simp [PyData.depth, PyData.depthAll]; omega
theorem alike_all {f : α → D} {n : Nat} (h : OrC f n) : ∀ xs ys : List α, PySem.W.alikeAll (toPs (xs.map f)) (toPs (ys.map f)) = true
  | [], _ => by simp [toPs, PySem.W.alikeAll]
  | _ :: _, [] => by simp [toPs, PySem.W.alikeAll]
  | x :: xs, y :: ys => by
    show PySem.W.alikeAll (toP (f x) :: toPs (xs.map f)) (toP (f y) :: toPs (ys.map f)) = true
    rw [PySem.W.alikeAll, h.al, alike_all h xs ys]; rfl
theorem depth_all {f : α → D} {n : Nat} (h : OrC f n) : ∀ xs : List α, PyData.depthAll (toPs (xs.map f)) ≤ n
  | [] => by simp [toPs, PyData.depthAll]
  | x :: xs => by
    show PyData.depthAll (toP (f x) :: toPs (xs.map f)) ≤ n
    have h1 := h.dp x
    have h2 := depth_all h xs
    simp [PyData.depthAll]; omega
theorem orc_lst {f : α → D} {n : Nat} (h : OrC f n) : OrC (eL f) (n + 1) := by
  refine ⟨eqc_lst h.eqc, fun a b => ?_, (fun _ z => nomatch z), fun a => ?_⟩
  · show PySem.W.alike (.list (toPs (a.map f))) (.list (toPs (b.map f))) = true
    rw [PySem.W.alike]; exact alike_all h a b
  · show PyData.depth (.list (toPs (a.map f))) ≤ n + 1
    have := depth_all h a
    simp [PyData.depth]; omega
end
section
variable {X : Cx}
def rCmpD (K : PySem.W.Frag) (g : PyData → PyData → Bool) : R2 := fun x y H Q => ∃ d e, Dp K H x d ∧ Dp K H y e ∧ PySem.W.alike d e = true ∧ d ≠ .none ∧ d.depth ≤ 60 ∧ Q (.bl (g d e)) H
theorem op_ltD (hu : X.A.units + 64 < cLine) : OpR X (compareOp .Lt) (rCmpD X.K fun d e => PySem.W.dataLt d e) := by
  intro pins s σ H x y v u Q I rx ry h
  obtain ⟨d, e, hd, he, sd, se, dp, q⟩ := h
  obtain ⟨as, r1⟩ := Dp.reads I d x v hd rx
  obtain ⟨bs, r2⟩ := Dp.reads I e y u he ry
  exact PySem.W.lt_data r1 r2 sd se (by omega) ⟨.bl _, H, I, rfl, q⟩
theorem op_gtD (hu : X.A.units + 64 < cLine) : OpR X (compareOp .Gt) (rCmpD X.K fun d e => PySem.W.dataLt e d) := by
  intro pins s σ H x y v u Q I rx ry h
  obtain ⟨d, e, hd, he, sd, se, dp, q⟩ := h
  obtain ⟨as, r1⟩ := Dp.reads I d x v hd rx
  obtain ⟨bs, r2⟩ := Dp.reads I e y u he ry
  exact PySem.W.gt_data r1 r2 sd se (by omega) ⟨.bl _, H, I, rfl, q⟩
theorem op_geD (hu : X.A.units + 64 < cLine) : OpR X (compareOp .GtE) (rCmpD X.K fun d e => !PySem.W.dataLt d e) := by
  intro pins s σ H x y v u Q I rx ry h
  obtain ⟨d, e, hd, he, sd, se, dp, q⟩ := h
  obtain ⟨as, r1⟩ := Dp.reads I d x v hd rx
  obtain ⟨bs, r2⟩ := Dp.reads I e y u he ry
  exact PySem.W.ge_data r1 r2 sd se (by omega) ⟨.bl _, H, I, rfl, q⟩
end
section
variable {X : Cy} {α : Type} {en : α → D} {n : Nat} {Q : Res → Prop}
theorem OrC.dpv (h : OrC en n) {K : PySem.W.Frag} {F H : Hp} (ex : Ex F H) {a : α} {v : V} (hv : Vw K F H (en a) v) : Dp K H v (toP (en a)) := okD.dp ex n _ _ (h.eqc.ok a) hv
theorem opw_ltC (h : OrC en n) (hu : X.A.units + 64 < cLine) (a b : α) (q : Q (.sh (.bl (ltC en a b)))) (hn : n ≤ 60 := by decide) : OpW X (compareOp .Lt) (en a) (en b) Q :=
  opw_flat (d := .bl (ltC en a b)) (v := .bl (ltC en a b)) (fun _ _ => rfl) (fun F H va vb ex h1 h2 => ⟨_, op_ltD hu, fun P p => ⟨_, _, h.dpv ex h1, h.dpv ex h2, h.al a b, h.nn a, Nat.le_trans (h.dp a) hn, p⟩⟩) q
theorem opw_gtC (h : OrC en n) (hu : X.A.units + 64 < cLine) (a b : α) (q : Q (.sh (.bl (ltC en b a)))) (hn : n ≤ 60 := by decide) : OpW X (compareOp .Gt) (en a) (en b) Q :=
  opw_flat (d := .bl (ltC en b a)) (v := .bl (ltC en b a)) (fun _ _ => rfl) (fun F H va vb ex h1 h2 => ⟨_, op_gtD hu, fun P p => ⟨_, _, h.dpv ex h1, h.dpv ex h2, h.al a b, h.nn a, Nat.le_trans (h.dp a) hn, p⟩⟩) q
theorem opw_geC (h : OrC en n) (hu : X.A.units + 64 < cLine) (a b : α) (q : Q (.sh (.bl (leC en b a)))) (hn : n ≤ 60 := by decide) : OpW X (compareOp .GtE) (en a) (en b) Q :=
  opw_flat (d := .bl (leC en b a)) (v := .bl (leC en b a)) (fun _ _ => rfl) (fun F H va vb ex h1 h2 => ⟨_, op_geD hu, fun P p => ⟨_, _, h.dpv ex h1, h.dpv ex h2, h.al a b, h.nn a, Nat.le_trans (h.dp a) hn, p⟩⟩) q
end
open Out (Rt)
open Out (Rt)
section
variable {X : Cy} {e a b c o tg kx vx elt i : Expr} {es ifs : List Expr} {st : Stmt} {sts rest body orelse : List Stmt} {r : Env2} {G : GD} {pos tpos apos cpos p0 : Pos} {D0 : EndsD} {α β γ σT ρ : Type}
theorem ws_augS (i : Nat) {x : Str} {n : Int} {pos' : Pos} (hN : X.N.Nodup) (hi : X.N[i]? = some x) (hx : Loc X.env.scope x) (hr : r[i]? = some (.sh (.int n))) (h : WE X e r G fun y r1 G1 => i < r1.length ∧ ∃ m, vw r1 y = some (.int m) ∧ D0.nx (r1.set i (.sh (.int (n - m)))) G1)
    (hf : X.fn x = true ∨ X.env.scope.names.lookup x = some .local := by first | exact .inl rfl | exact .inr rfl | assumption) : WS X (.AugAssign (.Name x pos') .Sub e pos) r G D0 := fun F0 T F H σ lk S =>
  RunS.of (ps_aug hN hi hx peR ip_sub hf) (by
    obtain ⟨v, h1, h2⟩ := S.slot hr
    cases (show v = .int n from h2)
    refine ⟨.int n, h1, (h F0 T F H σ lk S).mono fun v H1 ⟨y, r1, G1, F1, e1, S1, k1, hi', m, q1, q2⟩ => ?_⟩
    exact ⟨n, m, rfl, (S1.view k1 q1).int, r1.set i (.sh (.int (n - m))), G1, F1, S1.set hi' ⟨_, rfl, rfl⟩ (fun d' z => nomatch z), q2⟩)
end
open Out (Rt)
open Out (Rt)
open Out (Rt)
section
variable {X : Cy} {e a b c o tg kx vx elt : Expr} {r : Env2} {G : GD} {pos p0 p1 p2 : Pos}
/-- the different ints, ascending -/
def uniq (ns : List Int) : List Int := isort ((dmk (ns.map fun x => (x, true))).map (·.1))
end
open Out (Rt)
/-- a table grows by a code object -/
theorem Sta.tab {K : PySem.W.Frag} {F0 T F : Hp} {G : GD} {H : Hp} {r : Env2} {σ : L2.St} {P c : Addr} {q : Str} {ps more : Array Value} (S : Sta K F0 T F G H r σ) (hG : G P = some (.tab q)) (hc : H c = none)
    (ht : TriplesOk (ps ++ more).toList) (ha : ∀ (pos : Pos) (cv : Value), codeAmong pos (ps ++ more).toList = some cv → (∃ c0, cv = .ref c0 ∧ F c0 = some (LamX.CodeO c0 q)) ∨ cv = .ref c) :
    Sta K F0 T (upd F c (LamX.CodeO c q)) G (upd (upd H P (.tbl (ps ++ more))) c (LamX.CodeO c q)) r σ := by
  obtain ⟨fc, gc, tc⟩ := S.bas.freshF hc
  have fP := S.bas.fg _ _ hG
  have tP := S.bas.gt _ _ hG
  have hPc : P ≠ c := fun z => by subst z; obtain ⟨o, ho⟩ := S.bas.gh' hG; rw [hc] at ho; cases ho
  have ef : Ex F (upd F c (LamX.CodeO c q)) := Ex.new fc
  have at_ : ∀ a, a ≠ P → a ≠ c → upd (upd H P (.tbl (ps ++ more))) c (LamX.CodeO c q) a = H a := fun a h1 h2 => by rw [upd_ne h2, upd_ne h1]
  refine S.grow (G' := G) ⟨S.bas.ff.trans ef, fun a o h => ?_, fun a o h => ?_, fun a d h => ?_, fun a o h => ?_, S.bas.gt, fun a o h => ?_⟩ ef fun p h1 h2 h3 ⟨u, hu⟩ => ?_
  · by_cases e : a = c
    · subst e; exact .inr tc
    · rw [upd_ne e] at h; exact S.bas.ft a o h
  · by_cases e : a = c
    · subst e; rw [upd_same] at h ⊢; exact h
    · rw [upd_ne e] at h ⊢
      have eP : a ≠ P := fun z => by subst z; rw [fP] at h; cases h
      rw [upd_ne eP]; exact S.bas.fh a o h
  · by_cases e : a = P
    · subst e
      rw [hG] at h; cases h
      exact ⟨_, by rw [upd_ne hPc, upd_same], ht, fun pos cv hcv => by
        rcases ha pos cv hcv with ⟨c0, e1, e2⟩ | e1
        · exact ⟨c0, e1, ef _ _ e2⟩
        · exact ⟨c, e1, upd_same⟩⟩
    · have ec : a ≠ c := fun z => by subst z; rw [gc] at h; cases h
      exact (S.bas.gh a d h).mono ef fun o ho => by rw [at_ a e ec]; exact ho
  · have ec : a ≠ c := fun z => by subst z; rw [gc] at h; cases h
    rw [upd_ne ec]; exact S.bas.fg a o h
  · have ec : a ≠ c := ne_of_none h tc
    have eP : a ≠ P := ne_of_none h tP
    rw [at_ a eP ec]; exact S.bas.tk a o h
  · have ec : p ≠ c := fun z => by subst z; rw [hc] at hu; cases hu
    have eP : p ≠ P := fun z => by subst z; rw [h2] at hG; cases hG
    exact ⟨fun o ho => by rw [at_ p eP ec]; exact ho, by rw [upd_ne ec]; exact h1, h2, h3⟩
section
variable {Z : Cx} {x0 : Exn} {a0 : Addr} {Y : Cy} {oe : Obj} {pn : List (Addr × Obj)} {d : Option Addr} {F1 T1 : Hp} {r : Env2} {G : GD} {a : Expr} {pos p0 : Pos}
theorem ExOk.dict {K : PySem.W.Frag} {F H : Hp} {cls : Value} {d : Option Addr} {x : Exn} (h : ExOk K F cls d x) (e : Ex F H) : d = none ∨ ∃ dd fs, d = some dd ∧ H dd = some (.xd fs) := by
  obtain ⟨_, ⟨h2, h3⟩ | ⟨a, vs, h2, h3, h4⟩⟩ := h
  · exact .inl h2
  · exact .inr ⟨a, _, h2, e _ _ h3⟩
end
open Out (Rt)
open Out (Rt)
theorem opw_fdivX {X : Cy} {Q : Res → Prop} {i j : Int} (hc : 0 < j ∧ j < 2 ^ 400) (q : Q (.sh (.int (i / j)))) : OpW X (binaryOp .FloorDiv) (.int i) (.int j) Q :=
  opw_flat (d := .int (i / j)) (v := .int (i / j)) (fun _ _ => rfl) (fun F H va vb _ h1 h2 => ⟨_, op_fdivW, fun P p => ⟨i, j, h1.int, h2.int, wide_div (b := 400) hc.1 (by have := hc.2; have := hc.1; omega) (by decide) (by decide), p⟩⟩) q
open Out (Rt)
open Out (Rt)
/-- its names: parameters that no slot bears, captured ones, globals -/
structure LamD (N : List Str) (sc scope : Scope) (a : Str) : Prop where
  kind : scope.kind = .function
  co : scope.isCoroutine = false
  gen : scope.isGenerator = false
  nocell : ∀ y ∈ scope.names, y.2 ≠ .cell
  own : ∀ y ∈ scope.names, y.2 = .local → y.1 ∉ N
  free : ∀ y ∈ scope.names, y.2 = .free → sc.names.lookup y.1 = some .cell ∨ sc.names.lookup y.1 = some .free
  par : scope.names.lookup a = some .local
theorem LamD.has {X : Cx} {scope : Scope} {a : Str} (L : LamD X.N X.env.scope scope a) (ok : X.Ok) : ∀ y ∈ scope.names, y.2 = .free → ∃ c, X.env.cells.lookup y.1 = some c := fun y hy e => ok.has y.1 (L.free y hy e)
mutual
def nkP : PyData → NestedKey
  | .int i => .num i
  | .bool b => .num (if b = true then 1 else 0)
  | .str x => .text x
  | .tuple ds => .tup (nkPs ds)
  | _ => .none
def nkPs : List PyData → List NestedKey
  | [] => []
  | d :: ds => nkP d :: nkPs ds
end
mutual
def nkB : PyData → Bool
  | .int _ => true
  | .bool _ => true
  | .str _ => true
  | .tuple ds => nkBs ds
  | .none => true
  | _ => false
def nkBs : List PyData → Bool
  | [] => true
  | d :: ds => nkB d && nkBs ds
end
mutual
theorem nested_of {h : Heap} : ∀ (d : PyData) {v : Value} {as : List Addr}, nkB d = true → Reads h v d as → NestedIs h (nkP d) v
  | .int i, _, _, _, .int _ t => .int i t
  | .bool b, _, _, _, .bool _ => .bool rfl
  | .str x, _, _, _, .str _ t => .text x t
  | .none, _, _, _, .none => .none
  | .tuple ds, _, _, hb, .tuple h1 h2 h3 h4 => .tup h1 h2 h3 (nested_all ds hb h4)
theorem nested_all {h : Heap} : ∀ (ds : List PyData) {vs : List Value} {as : List Addr}, nkBs ds = true → ReadsAll h vs ds as → NestedAll h (nkPs ds) vs
  | [], _, _, _, .nil => .nil
  | d :: ds, _, _, hb, .cons h1 h2 => by
    have hb : (nkB d && nkBs ds) = true := hb
    rw [Bool.and_eq_true] at hb
    exact .cons (nested_of d hb.1 h1) (nested_all ds hb.2 h2)
end
section
variable {P : Program} {w : World} {H : Hp} {h : Heap} {a p : Addr} {xs : List KdE} {k : NestedKey} {v : V}
/-- the key of an entry, told by the ghost heap -/
def KyAt (K : PySem.W.Frag) (H : Hp) (x : KdE) : Prop := ∃ d, Dp K H (.ref x.2.1) d ∧ nkP d = x.1 ∧ nkB d = true ∧ x.1.depth ≤ 8
end
theorem KyAt.is {X : Cx} {pins : List (Addr × Obj)} {σ : L2.St} {H : Hp} {s : Shared} (I : Inv X pins σ H s) {x : KdE} (h : KyAt X.K H x) : (nestedKind X.prog X.w).is s.heap x.1 x.2.1 := by
  obtain ⟨d, h1, h2, h3, h4⟩ := h
  obtain ⟨as, hr⟩ := Dp.reads I d (.ref x.2.1) (.ref x.2.1) h1 rfl
  refine ⟨?_, h4⟩
  rw [← h2]; exact nested_of d h3 hr
/-- a key that is there, or a new one -/
def putN (xs : List KdE) (k : NestedKey) (p : Addr) (v : V) : List KdE := if (xs.any fun x => decide (x.1 = k)) = true then xs.map (fun x => if x.1 = k then (x.1, x.2.1, v) else x) else xs ++ [(k, p, v)]
def valN (xs : List KdE) (k : NestedKey) : Option V := (xs.find? fun x => decide (x.1 = k)).map (·.2.2)
def KRep (K : PySem.W.Frag) (F : Hp) : List (D × D) → List KdE → Prop
  | [], us => us = []
  | p :: acc, us => ∃ u us', us = u :: us' ∧ u.1 = nkD p.1 ∧ Rep K F p.1 (.ref u.2.1) ∧ Rep K F p.2 u.2.2 ∧ KRep K F acc us'
def kdD (w : World) (acc : List (D × D)) : D := .kd w (acc.map (·.1)) (acc.map (·.2))
structure KyD (d : D) : Prop where
  ok : ∃ n, okD n d
  nb : nkB (toP d) = true
  dp : (nkD d).depth ≤ 8
section
variable {K : PySem.W.Frag} {F F' H : Hp} {w : World}
theorem KRep.mono (e : Ex F F') : ∀ {acc : List (D × D)} {us : List KdE}, KRep K F acc us → KRep K F' acc us
  | [], _, h => h
  | p :: acc, _, ⟨u, us', h1, h2, h3, h4, h5⟩ => ⟨u, us', h1, h2, Rep.mono e _ _ h3, Rep.mono e _ _ h4, h5.mono e⟩
theorem KRep.length : ∀ {acc : List (D × D)} {us : List KdE}, KRep K F acc us → us.length = acc.length
  | [], _, h => by rw [show _ = [] from h]; rfl
  | p :: acc, _, ⟨u, us', h1, _, _, _, h5⟩ => by rw [h1, List.length_cons, List.length_cons, h5.length]
theorem KRep.own : ∀ {acc : List (D × D)} {us : List KdE}, KRep K F acc us → us.map (·.1) = nkDs (acc.map (·.1)) ∧ RepL K F (acc.map (·.1)) (us.map fun e => .ref e.2.1) ∧ RepL K F (acc.map (·.2)) (us.map (·.2.2))
  | [], _, h => by rw [show _ = [] from h]; exact ⟨rfl, rfl, rfl⟩
  | p :: acc, _, ⟨u, us', h1, h2, h3, h4, h5⟩ => by
    subst h1
    obtain ⟨z1, z2, z3⟩ := h5.own
    refine ⟨?_, ⟨_, _, rfl, h3, z2⟩, ⟨_, _, rfl, h4, z3⟩⟩
    show u.1 :: us'.map (·.1) = nkD p.1 :: nkDs (acc.map (·.1))
    rw [h2, z1]
theorem own_kdD {p : Addr} {acc : List (D × D)} {us : List KdE} (h : KRep K F acc us) (hp : H p = some (KdO w p us)) : Own K F H p (kdD w acc) := by
  obtain ⟨z1, z2, z3⟩ := h.own
  exact ⟨us, hp, z1, z2, z3⟩
end
def putKD (acc : List (D × D)) (k d : D) : List (D × D) := if (acc.any fun kv => decide (nkD kv.1 = nkD k)) = true then acc.map (fun kv => if nkD kv.1 = nkD k then (kv.1, d) else kv) else acc ++ [(k, d)]
def valKD (acc : List (D × D)) (k : D) : Option D := (acc.find? fun kv => decide (nkD kv.1 = nkD k)).map (·.2)
section
variable {K : PySem.W.Frag} {F F' H : Hp} {w : World} {k d : D} {p : Addr} {v : V}
theorem KRep.any (k : D) : ∀ {acc : List (D × D)} {us : List KdE}, KRep K F acc us → (us.any fun x => decide (x.1 = nkD k)) = acc.any fun kv => decide (nkD kv.1 = nkD k)
  | [], _, h => by rw [show _ = [] from h]; rfl
  | q :: acc, _, ⟨u, us', h1, h2, _, _, h5⟩ => by subst h1; rw [List.any_cons, List.any_cons, h5.any k, h2]
theorem KRep.over (hv : Rep K F d v) : ∀ {acc : List (D × D)} {us : List KdE}, KRep K F acc us → KRep K F (acc.map fun kv => if nkD kv.1 = nkD k then (kv.1, d) else kv) (us.map fun x => if x.1 = nkD k then (x.1, x.2.1, v) else x)
  | [], _, h => by rw [show _ = [] from h]; rfl
  | q :: acc, _, ⟨u, us', h1, h2, h3, h4, h5⟩ => by
    subst h1
    refine ⟨_, _, List.map_cons, ?_, ?_, ?_, h5.over hv⟩ <;> dsimp only <;> rw [h2] <;> by_cases z : nkD q.1 = nkD k
    · rw [if_pos z, if_pos z]
    · rw [if_neg z, if_neg z]; exact h2
    · rw [if_pos z, if_pos z]; exact h3
    · rw [if_neg z, if_neg z]; exact h3
    · rw [if_pos z, if_pos z]; exact hv
    · rw [if_neg z, if_neg z]; exact h4
theorem KRep.append : ∀ {acc bcc : List (D × D)} {us ws : List KdE}, KRep K F acc us → KRep K F bcc ws → KRep K F (acc ++ bcc) (us ++ ws)
  | [], _, _, _, h, h' => by rw [show _ = [] from h]; exact h'
  | q :: acc, _, _, _, ⟨u, us', h1, h2, h3, h4, h5⟩, h' => by subst h1; exact ⟨u, us' ++ _, rfl, h2, h3, h4, h5.append h'⟩
theorem KRep.put {acc : List (D × D)} {us : List KdE} (h : KRep K F acc us) (hk : Rep K F k (.ref p)) (hv : Rep K F d v) : KRep K F (putKD acc k d) (putN us (nkD k) p v) := by
  unfold putKD putN
  rw [h.any k]
  by_cases z : (acc.any fun kv => decide (nkD kv.1 = nkD k)) = true
  · rw [if_pos z, if_pos z]; exact h.over hv
  · rw [if_neg z, if_neg z]; exact h.append ⟨(nkD k, p, v), [], rfl, rfl, hk, hv, rfl⟩
theorem KRep.val (k : D) : ∀ {acc : List (D × D)} {us : List KdE}, KRep K F acc us → (valKD acc k = none ∧ valN us (nkD k) = none) ∨ ∃ d v, valKD acc k = some d ∧ valN us (nkD k) = some v ∧ Rep K F d v
  | [], _, h => by rw [show _ = [] from h]; exact .inl ⟨rfl, rfl⟩
  | q :: acc, _, ⟨u, us', h1, h2, h3, h4, h5⟩ => by
    subst h1
    by_cases z : nkD q.1 = nkD k
    · right
      refine ⟨q.2, u.2.2, ?_, ?_, h4⟩
      · unfold valKD; rw [List.find?_cons_of_pos (by simpa using z)]; rfl
      · unfold valN; rw [List.find?_cons_of_pos (by simpa [h2] using z)]; rfl
    · have ih := KRep.val k h5
      unfold valKD valN at ih ⊢
      rw [List.find?_cons_of_neg (by simpa using z), List.find?_cons_of_neg (by simpa [h2] using z)]
      exact ih
end
open Out (Rt)
def KR (K : PySem.W.Frag) (F : Hp) (acc : List (D × D)) (us : List KdE) : Prop := KRep K F acc us ∧ ∀ p ∈ acc, KyD p.1
theorem KR.mono {K : PySem.W.Frag} {F F' : Hp} (e : Ex F F') {acc : List (D × D)} {us : List KdE} (h : KR K F acc us) : KR K F' acc us := ⟨h.1.mono e, h.2⟩
theorem KR.length {K : PySem.W.Frag} {F : Hp} {acc : List (D × D)} {us : List KdE} (h : KR K F acc us) : us.length = acc.length := h.1.length
theorem putKD_ky {acc : List (D × D)} {k d : D} (h : ∀ p ∈ acc, KyD p.1) (hk : KyD k) : ∀ p ∈ putKD acc k d, KyD p.1 := fun p hp => by
  unfold putKD at hp
  split at hp
  · obtain ⟨q, hq, rfl⟩ := List.mem_map.mp hp
    split
    · exact h q hq
    · exact h q hq
  · rcases List.mem_append.mp hp with z | z
    · exact h p z
    · cases List.mem_singleton.mp z; exact hk
theorem KR.put {K : PySem.W.Frag} {F : Hp} {acc : List (D × D)} {us : List KdE} {k d : D} {p : Addr} {v : V} (h : KR K F acc us) (hk : KyD k) (h1 : Rep K F k (.ref p)) (h2 : Rep K F d v) : KR K F (putKD acc k d) (putN us (nkD k) p v) := ⟨h.1.put h1 h2, putKD_ky h.2 hk⟩
theorem KR.own {K : PySem.W.Frag} {F H : Hp} {w : World} {p : Addr} {acc : List (D × D)} {us : List KdE} (h : KR K F acc us) (hp : H p = some (KdO w p us)) : Own K F H p (kdD w acc) := own_kdD h.1 hp
open Out (Rt)
open Out (Rt)
open Out (Rt)
open Out (Rt)
open Out (Rt)
theorem Wk.trans {a b c : Env2} (w : Wk a b) : Wk b c → Wk a c := by
  induction w generalizing c with
  | nil => intro v; cases v; exact .nil
  | no _ ih => intro v; cases v with
    | no v => exact .no (ih v)
    | eq v => exact .no (ih v)
  | eq _ ih => intro v; cases v with
    | no v => exact .no (ih v)
    | eq v => exact .eq (ih v)
open Out (Rt)
open Out (Rt)
open Out (Rt)
open Out (Rt)
open Out (Rt)
section
variable {X : Cy} {e a b c o : Expr} {es : List Expr} {st : Stmt} {sts rest : List Stmt} {r : Env2} {G : GD} {pos apos p0 : Pos} {D0 : EndsD}
def putAD (f : Str) (d : D) : List Str → List D → List D
  | g :: r, x :: ds => if g = f then d :: ds else x :: putAD f d r ds
  | _, _ => [d]
end
open Out (Rt)
open Out (Rt)
abbrev As := List Addr → GD → Prop
structure AOk (P : As) : Prop where
  dom : ∀ fp G, P fp G → ∀ a ∈ fp, ∃ d, G a = some d
  loc : ∀ fp G G', P fp G → (∀ a ∈ fp, G' a = G a) → P fp G'
/-- what a step leaves: all else is as it was, what is new was not there -/
def Frm (fp : List Addr) (G : GD) (fp' : List Addr) (G' : GD) : Prop := (∀ b, b ∉ fp → G b ≠ none → G' b = G b) ∧ ∀ b ∈ fp', b ∈ fp ∨ G b = none
theorem Frm.refl (fp : List Addr) (G : GD) : Frm fp G fp G := ⟨fun _ _ _ => rfl, fun _ h => .inl h⟩
theorem Frm.trans {a b c : List Addr} {G G' G'' : GD} (h : Frm a G b G') (k : Frm b G' c G'') : Frm a G c G'' := by
  refine ⟨fun x hx hg => ?_, fun x hx => ?_⟩
  · have e := h.1 x hx hg
    have hb : x ∉ b := fun z => by
      rcases h.2 x z with y | y
      · exact hx y
      · exact hg y
    rw [k.1 x hb (by rw [e]; exact hg), e]
  · rcases k.2 x hx with y | y
    · exact h.2 x y
    · by_cases z : x ∈ a
      · exact .inl z
      · right
        cases e : G x with
        | none => rfl
        | some d =>
          have := h.1 x z (by rw [e]; exact fun w => nomatch w)
          rw [y, e] at this; cases this
def GS (Ps : List As) (G : GD) : Prop := ∃ fps : List (List Addr), fps.length = Ps.length ∧ (∀ (i : Nat) (P : As) (fp : List Addr), Ps[i]? = some P → fps[i]? = some fp → AOk P ∧ P fp G) ∧ ∀ (i j : Nat) (fp fq : List Addr), i ≠ j → fps[i]? = some fp → fps[j]? = some fq → ∀ a ∈ fp, a ∉ fq
theorem GS.nil (G : GD) : GS [] G := ⟨[], rfl, fun i P fp h => by simp at h, fun i j fp fq _ h => by simp at h⟩
/-- one of the parts is changed -/
theorem GS.at {Ps : List As} {G : GD} (h : GS Ps G) (i : Nat) {P : As} (hi : Ps[i]? = some P) : ∃ fp, AOk P ∧ P fp G ∧ ∀ (P' : As) (fp' : List Addr) (G' : GD), AOk P' → P' fp' G' → Frm fp G fp' G' → GS (Ps.set i P') G' := by
  obtain ⟨fps, h1, h2, h3⟩ := h
  have hlt : i < Ps.length := (List.getElem?_eq_some_iff.mp hi).1
  obtain ⟨fp, hfp⟩ : ∃ fp, fps[i]? = some fp := ⟨_, List.getElem?_eq_getElem (by omega)⟩
  obtain ⟨k1, k2⟩ := h2 i P fp hi hfp
  refine ⟨fp, k1, k2, fun P' fp' G' q1 q2 q3 => ⟨fps.set i fp', by rw [List.length_set, List.length_set, h1], fun j Q fq hQ hq => ?_, fun j l fq fr hjl hq hr a ha hb => ?_⟩⟩
  · by_cases e : i = j
    · subst e
      rw [List.getElem?_set_self hlt] at hQ
      rw [List.getElem?_set_self (by omega)] at hq
      cases hQ; cases hq; exact ⟨q1, q2⟩
    · rw [List.getElem?_set_ne e] at hQ hq
      obtain ⟨m1, m2⟩ := h2 j Q fq hQ hq
      refine ⟨m1, m1.loc fq G G' m2 fun a ha => q3.1 a (h3 j i fq fp (fun z => e z.symm) hq hfp a ha) ?_⟩
      obtain ⟨d, hd⟩ := m1.dom fq G m2 a ha
      rw [hd]; exact fun z => nomatch z
  · have out : ∀ (m : Nat) (fm : List Addr), m ≠ i → fps[m]? = some fm → ∀ x ∈ fm, x ∉ fp' := fun m fm hm hfm x hx hx' => by
      rcases q3.2 x hx' with y | y
      · exact h3 m i fm fp hm hfm hfp x hx y
      · have hml : m < Ps.length := by have := (List.getElem?_eq_some_iff.mp hfm).1; omega
        obtain ⟨m1, m2⟩ := h2 m _ fm (List.getElem?_eq_getElem hml) hfm
        obtain ⟨d, hd⟩ := m1.dom fm G m2 x hx
        rw [y] at hd; cases hd
    by_cases e : i = j
    · subst e
      rw [List.getElem?_set_self (by omega)] at hq
      rw [List.getElem?_set_ne hjl] at hr
      cases hq
      exact out l fr (fun z => hjl z.symm) hr a hb ha
    · rw [List.getElem?_set_ne e] at hq
      by_cases e2 : i = l
      · subst e2
        rw [List.getElem?_set_self (by omega)] at hr
        cases hr
        exact out j fq (fun z => e z.symm) hq a ha hb
      · rw [List.getElem?_set_ne e2] at hr
        exact h3 j l fq fr hjl hq hr a ha hb
/-- a new part -/
theorem GS.add {Ps : List As} {G : GD} (h : GS Ps G) {P : As} {fp : List Addr} {G' : GD} (k : AOk P) (hp : P fp G') (h1 : ∀ b, G b ≠ none → G' b = G b) (h2 : ∀ b ∈ fp, G b = none) : GS (Ps ++ [P]) G' := by
  obtain ⟨fps, k1, k2, k3⟩ := h
  have dom : ∀ (i : Nat) (fq : List Addr), fps[i]? = some fq → ∀ a ∈ fq, ∃ d, G a = some d := fun i fq hq a ha => by
    have hil : i < Ps.length := by have := (List.getElem?_eq_some_iff.mp hq).1; omega
    obtain ⟨m1, m2⟩ := k2 i _ fq (List.getElem?_eq_getElem hil) hq
    exact m1.dom fq G m2 a ha
  refine ⟨fps ++ [fp], by rw [List.length_append, List.length_append, k1]; rfl, fun i Q fq hQ hq => ?_, fun i j fq fr hij hq hr a ha hb => ?_⟩
  · by_cases hi : i < Ps.length
    · rw [List.getElem?_append_left hi] at hQ
      rw [List.getElem?_append_left (by omega)] at hq
      obtain ⟨m1, m2⟩ := k2 i Q fq hQ hq
      refine ⟨m1, m1.loc fq G G' m2 fun a ha => h1 a ?_⟩
      obtain ⟨d, hd⟩ := m1.dom fq G m2 a ha
      rw [hd]; exact fun z => nomatch z
    · have : i = Ps.length := by have := (List.getElem?_eq_some_iff.mp hQ).1; rw [List.length_append] at this; simp at this; omega
      subst this
      rw [List.getElem?_append_right (Nat.le_refl _), Nat.sub_self] at hQ
      rw [← k1, List.getElem?_append_right (Nat.le_refl _), Nat.sub_self] at hq
      cases hQ; cases hq; exact ⟨k, hp⟩
  · have cs : ∀ (m : Nat) (fm : List Addr), (fps ++ [fp])[m]? = some fm → fps[m]? = some fm ∨ (m = fps.length ∧ fm = fp) := fun m fm hm => by
      by_cases hl : m < fps.length
      · rw [List.getElem?_append_left hl] at hm; exact .inl hm
      · have : m = fps.length := by have := (List.getElem?_eq_some_iff.mp hm).1; rw [List.length_append] at this; simp at this; omega
        subst this
        rw [List.getElem?_append_right (Nat.le_refl _), Nat.sub_self] at hm
        cases hm; exact .inr ⟨rfl, rfl⟩
    rcases cs i fq hq with z | ⟨z1, z2⟩
    · rcases cs j fr hr with y | ⟨y1, y2⟩
      · exact k3 i j fq fr hij z y a ha hb
      · subst y2
        obtain ⟨d, hd⟩ := dom i fq z a ha
        rw [h2 a hb] at hd; cases hd
    · subst z2
      rcases cs j fr hr with y | ⟨y1, y2⟩
      · obtain ⟨d, hd⟩ := dom j fr y a hb
        rw [h2 a ha] at hd; cases hd
      · exact hij (by omega)
theorem GS.take {Ps : List As} {G : GD} (h : GS Ps G) (n : Nat) : GS (Ps.take n) G := by
  obtain ⟨fps, k1, k2, k3⟩ := h
  refine ⟨fps.take n, by rw [List.length_take, List.length_take, k1], fun i P fp hP hf => ?_, fun i j fp fq hij hf hq => ?_⟩
  · rw [List.getElem?_take] at hP hf
    split at hP
    · rename_i hi
      rw [if_pos hi] at hf
      exact k2 i P fp hP hf
    · cases hP
  · rw [List.getElem?_take] at hf hq
    split at hf
    · split at hq
      · exact k3 i j fp fq hij hf hq
      · cases hq
    · cases hf
inductive Fld where
  | sh (d : D) | mo (d : D)
/-- an own list -/
abbrev Fld.mu (ds : List D) : Fld := .mo (.lst ds)
inductive FL (G : GD) : List Fld → List D → List Addr → Prop
  | nil : FL G [] [] []
  | sh {d : D} {fs : List Fld} {ds : List D} {as : List Addr} (h : FL G fs ds as) : FL G (.sh d :: fs) (d :: ds) as
  | mo {d : D} {a : Addr} {fs : List Fld} {ds : List D} {as : List Addr} (ha : G a = some d) (h : FL G fs ds as) : FL G (.mo d :: fs) (.adr a :: ds) (a :: as)
theorem FL.loc {G G' : GD} {fs : List Fld} {ds : List D} {as : List Addr} (h : FL G fs ds as) (k : ∀ a ∈ as, G' a = G a) : FL G' fs ds as := by
  induction h with
  | nil => exact .nil
  | sh _ ih => exact .sh (ih k)
  | mo ha _ ih => exact .mo (by rw [k _ List.mem_cons_self]; exact ha) (ih fun a h => k a (List.mem_cons_of_mem _ h))
theorem FL.dom {G : GD} {fs : List Fld} {ds : List D} {as : List Addr} (h : FL G fs ds as) : ∀ a ∈ as, ∃ d, G a = some d := by
  induction h with
  | nil => intro a h; cases h
  | sh _ ih => exact ih
  | mo ha _ ih =>
    intro a h
    rcases List.mem_cons.mp h with rfl | h
    · exact ⟨_, ha⟩
    · exact ih a h
theorem FL.len {G : GD} {fs : List Fld} {ds : List D} {as : List Addr} (h : FL G fs ds as) : fs.length = ds.length := by
  induction h with
  | nil => rfl
  | sh _ ih => rw [List.length_cons, List.length_cons, ih]
  | mo _ _ ih => rw [List.length_cons, List.length_cons, ih]
def obA (C o : Addr) (ns : List Str) (fs : List Fld) : As := fun fp G => ∃ ds as, fp = o :: as ∧ (o :: as).Nodup ∧ ns.length = fs.length ∧ G o = some (.obj C ns ds) ∧ FL G fs ds as
/-- a field that is shared data is read -/
theorem FL.get {G : GD} : ∀ {fs : List Fld} {ds : List D} {as : List Addr}, FL G fs ds as → ∀ {ns : List Str} {f : Str} {d : D}, (ns.zip fs).lookup f = some (.sh d) → (ns.zip ds).lookup f = some d
  | _, _, _, .nil, ns, f, d, h => by cases ns <;> simp at h
  | _, _, _, .sh k, [], f, d, h => by simp at h
  | _, _, _, .mo _ k, [], f, d, h => by simp at h
  | _, _, _, .sh k, n :: ns, f, d, h => by
    rw [List.zip_cons_cons, List.lookup_cons] at h ⊢
    cases e : f == n with
    | true => rw [e] at h; cases h; rfl
    | false => rw [e] at h; exact k.get h
  | _, _, _, .mo _ k, n :: ns, f, d, h => by
    rw [List.zip_cons_cons, List.lookup_cons] at h ⊢
    cases e : f == n with
    | true => rw [e] at h; cases h
    | false => rw [e] at h; exact k.get h
/-- fields with a new one -/
def putFl (f : Str) (x : Fld) : List Str → List Fld → List Fld
  | g :: r, y :: fs => if g = f then x :: fs else y :: putFl f x r fs
  | _, _ => [x]
/-- a list of an own field is known by its address; it may be changed -/
theorem FL.mutD {G : GD} : ∀ {fs : List Fld} {ds : List D} {as : List Addr}, FL G fs ds as → as.Nodup → ∀ {ns : List Str} {f : Str} {l : D}, (ns.zip fs).lookup f = some (.mo l) → ∃ a ∈ as, (ns.zip ds).lookup f = some (.adr a) ∧ G a = some l ∧ ∀ l', FL (updG G a l') (putFl f (.mo l') ns fs) ds as
  | _, _, _, .nil, _, ns, f, l, h => by cases ns <;> simp at h
  | _, _, _, .sh k, _, [], f, l, h => by simp at h
  | _, _, _, .mo _ k, _, [], f, l, h => by simp at h
  | _, _, _, .sh (d := d) k, hn, n :: ns, f, l, h => by
    rw [List.zip_cons_cons, List.lookup_cons] at h
    cases e : f == n with
    | true => rw [e] at h; cases h
    | false =>
      rw [e] at h
      obtain ⟨a, ha, h1, h2, h3⟩ := k.mutD hn h
      refine ⟨a, ha, by rw [List.zip_cons_cons, List.lookup_cons, e]; exact h1, h2, fun l' => ?_⟩
      unfold putFl
      rw [if_neg (fun z => by rw [z, beq_self_eq_true] at e; cases e)]
      exact .sh (h3 l')
  | _, _, _, .mo (a := a0) ha0 k, hn, n :: ns, f, l, h => by
    obtain ⟨n1, n2⟩ := List.nodup_cons.mp hn
    rw [List.zip_cons_cons, List.lookup_cons] at h
    cases e : f == n with
    | true =>
      rw [e] at h; cases h
      refine ⟨a0, List.mem_cons_self, by rw [List.zip_cons_cons, List.lookup_cons, e], ha0, fun l' => ?_⟩
      unfold putFl
      rw [if_pos (eq_of_beq e).symm]
      exact .mo updG_same (k.loc fun b hb => updG_ne fun z => n1 (z ▸ hb))
    | false =>
      rw [e] at h
      obtain ⟨a, ha, h1, h2, h3⟩ := k.mutD n2 h
      refine ⟨a, List.mem_cons_of_mem _ ha, by rw [List.zip_cons_cons, List.lookup_cons, e]; exact h1, h2, fun l' => ?_⟩
      unfold putFl
      rw [if_neg (fun z => by rw [z, beq_self_eq_true] at e; cases e)]
      have hne : a0 ≠ a := fun z => n1 (by rw [z]; exact ha)
      exact .mo (by rw [updG_ne hne]; exact ha0) (h3 l')
theorem FL.mut {G : GD} {fs : List Fld} {ds : List D} {as : List Addr} (h : FL G fs ds as) (hn : as.Nodup) {ns : List Str} {f : Str} {l : List D} (hl : (ns.zip fs).lookup f = some (.mu l)) : ∃ a ∈ as, (ns.zip ds).lookup f = some (.adr a) ∧ G a = some (.lst l) ∧ ∀ l', FL (updG G a (.lst l')) (putFl f (.mu l') ns fs) ds as := by
  obtain ⟨a, h1, h2, h3, h4⟩ := h.mutD hn hl
  exact ⟨a, h1, h2, h3, fun l' => h4 _⟩
/-- a field gets shared data, or a list that is new -/
theorem FL.put {G : GD} : ∀ {fs : List Fld} {ds : List D} {as : List Addr}, FL G fs ds as → as.Nodup → ∀ {ns : List Str}, ns.length = fs.length → ∀ (f : Str) (x : Fld) (dx : D) (ax : List Addr), FL G [x] [dx] ax → (∀ a ∈ ax, a ∉ as) → ∃ bs, FL G (putFl f x ns fs) (putAD f dx ns ds) bs ∧ bs.Nodup ∧ ∀ a ∈ bs, a ∈ as ∨ a ∈ ax
  | _, _, _, .nil, _, [], _, f, x, dx, ax, hx, _ => ⟨ax, hx, by
      cases hx with
      | sh h => cases h; exact List.nodup_nil
      | mo _ h => cases h; simp, fun a h => .inr h⟩
  | _, _, _, .nil, _, _ :: _, hl, _, _, _, _, _, _ => nomatch hl
  | _, _, _, .sh _, _, [], hl, _, _, _, _, _, _ => nomatch hl
  | _, _, _, .mo _ _, _, [], hl, _, _, _, _, _, _ => nomatch hl
  | _, _, _, .sh (as := as) k, hn, n :: ns, hl, f, x, dx, ax, hx, hd => by
    unfold putFl putAD
    by_cases e : n = f
    · rw [if_pos e, if_pos e]
      cases hx with
      | sh h => cases h; exact ⟨as, .sh k, hn, fun a h => .inl h⟩
      | mo ha h =>
        cases h
        rename_i a0
        exact ⟨a0 :: as, .mo ha k, List.nodup_cons.mpr ⟨hd a0 (by simp), hn⟩, fun a h => by
          rcases List.mem_cons.mp h with rfl | h
          · exact .inr (by simp)
          · exact .inl h⟩
    · rw [if_neg e, if_neg e]
      obtain ⟨bs, b1, b2, b3⟩ := k.put hn (Nat.succ.inj hl) f x dx ax hx hd
      exact ⟨bs, .sh b1, b2, b3⟩
  | _, _, _, .mo (as := as) (a := a1) ha1 k, hn, n :: ns, hl, f, x, dx, ax, hx, hd => by
    obtain ⟨n1, n2⟩ := List.nodup_cons.mp hn
    have hd' : ∀ a ∈ ax, a ∉ as := fun a h z => hd a h (List.mem_cons_of_mem _ z)
    unfold putFl putAD
    by_cases e : n = f
    · rw [if_pos e, if_pos e]
      cases hx with
      | sh h => cases h; exact ⟨as, .sh k, n2, fun a h => .inl (List.mem_cons_of_mem _ h)⟩
      | mo ha h =>
        cases h
        rename_i a0
        exact ⟨a0 :: as, .mo ha k, List.nodup_cons.mpr ⟨hd' a0 (by simp), n2⟩, fun a h => by
          rcases List.mem_cons.mp h with rfl | h
          · exact .inr (by simp)
          · exact .inl (List.mem_cons_of_mem _ h)⟩
    · rw [if_neg e, if_neg e]
      obtain ⟨bs, b1, b2, b3⟩ := k.put n2 (Nat.succ.inj hl) f x dx ax hx hd'
      refine ⟨a1 :: bs, .mo ha1 b1, List.nodup_cons.mpr ⟨fun z => ?_, b2⟩, fun a h => ?_⟩
      · rcases b3 a1 z with y | y
        · exact n1 y
        · exact hd a1 y List.mem_cons_self
      · rcases List.mem_cons.mp h with rfl | h
        · exact .inl List.mem_cons_self
        · exact (b3 a h).imp (List.mem_cons_of_mem _) id
open Out (Rt)
section
variable {X : Cy} {e a b c o : Expr} {es : List Expr} {st : Stmt} {sts rest : List Stmt} {r : Env2} {G : GD} {pos apos p0 : Pos} {D0 : EndsD} {σT A R : Type}
theorem obA.own {C p : Addr} {ns : List Str} {fs : List Fld} {fp : List Addr} (h : obA C p ns fs fp G) : ∃ ds, G p = some (.obj C ns ds) := let ⟨ds, _, _, _, _, h1, _⟩ := h; ⟨ds, h1⟩
theorem FL.frz {G : GD} : ∀ {fs : List Fld} {ds : List D} {as : List Addr}, FL G fs ds as → as.Nodup → ∀ {ns : List Str} {f : Str} {l : List D}, (ns.zip fs).lookup f = some (.mu l) → ∀ (d : D), ∃ a ∈ as, (ns.zip ds).lookup f = some (.adr a) ∧ G a = some (.lst l) ∧ ∃ bs, FL G (putFl f (.sh d) ns fs) (putAD f d ns ds) bs ∧ bs.Nodup ∧ (∀ b ∈ bs, b ∈ as) ∧ a ∉ bs
  | _, _, _, .nil, _, ns, f, l, h, _ => by cases ns <;> simp at h
  | _, _, _, .sh k, _, [], f, l, h, _ => by simp at h
  | _, _, _, .mo _ k, _, [], f, l, h, _ => by simp at h
  | _, _, _, .sh (d := d0) k, hn, n :: ns, f, l, h, d => by
    rw [List.zip_cons_cons, List.lookup_cons] at h
    cases e : f == n with
    | true => rw [e] at h; cases h
    | false =>
      rw [e] at h
      obtain ⟨a, ha, h1, h2, bs, h3, h4, h5, h6⟩ := k.frz hn h d
      refine ⟨a, ha, by rw [List.zip_cons_cons, List.lookup_cons, e]; exact h1, h2, bs, ?_, h4, h5, h6⟩
      unfold putFl putAD
      rw [if_neg (fun z => by rw [z, beq_self_eq_true] at e; cases e), if_neg (fun z => by rw [z, beq_self_eq_true] at e; cases e)]
      exact .sh h3
  | _, _, _, .mo (a := a0) (as := as) ha0 k, hn, n :: ns, f, l, h, d => by
    obtain ⟨n1, n2⟩ := List.nodup_cons.mp hn
    rw [List.zip_cons_cons, List.lookup_cons] at h
    cases e : f == n with
    | true =>
      rw [e] at h; cases h
      refine ⟨a0, List.mem_cons_self, by rw [List.zip_cons_cons, List.lookup_cons, e], ha0, as, ?_, n2, fun b hb => List.mem_cons_of_mem _ hb, n1⟩
      unfold putFl putAD
      rw [if_pos (eq_of_beq e).symm, if_pos (eq_of_beq e).symm]
      exact .sh k
    | false =>
      rw [e] at h
      obtain ⟨a, ha, h1, h2, bs, h3, h4, h5, h6⟩ := k.frz n2 h d
      refine ⟨a, List.mem_cons_of_mem _ ha, by rw [List.zip_cons_cons, List.lookup_cons, e]; exact h1, h2, a0 :: bs, ?_, List.nodup_cons.mpr ⟨fun z => n1 (h5 _ z), h4⟩, fun b hb => ?_, fun z => ?_⟩
      · unfold putFl putAD
        rw [if_neg (fun z => by rw [z, beq_self_eq_true] at e; cases e), if_neg (fun z => by rw [z, beq_self_eq_true] at e; cases e)]
        exact .mo ha0 h3
      · rcases List.mem_cons.mp hb with rfl | hb
        · exact List.mem_cons_self
        · exact List.mem_cons_of_mem _ (h5 b hb)
      · rcases List.mem_cons.mp z with z | z
        · exact n1 (z ▸ ha)
        · exact h6 z
end
open Out (Rt)
section
variable {X : Cy} {e a b c o : Expr} {es : List Expr} {st : Stmt} {sts rest : List Stmt} {r : Env2} {G : GD} {pos apos cpos p0 : Pos} {D0 : EndsD} {σT A R α : Type} {cx : Nat → Addr}
theorem WA.mono {Q Q' : List D → Env2 → GD → Prop} (h : WA X es r G Q) (k : ∀ x r' G', Q x r' G' → Q' x r' G') : WA X es r G Q' := fun F0 T F H σ lk S =>
  (h F0 T F H σ lk S).mono fun _ _ ⟨x, r', G', F', a, b, c, q⟩ => ⟨x, r', G', F', a, b, c, k _ _ _ q⟩
end
open Out (Rt)
open Out (Rt)
open Out (Rt)
open Out (Rt)
open Out (Rt)
/-- the table of a law's own code is a part, too -/
def tabA (P : Addr) (q : Str) : As := fun fp G => fp = [P] ∧ G P = some (.tab q)
theorem GS.tab {Ps : List As} {G : GD} (h : GS Ps G) (i : Nat) {P : Addr} {q : Str} (hi : Ps[i]? = some (tabA P q)) : G P = some (.tab q) := by
  obtain ⟨fp, _, h1, _⟩ := h.at i hi
  exact h1.2
open Out (Rt)
open Out (Rt)
theorem PE.weak {X : Cx} {e : Expr} {t t' : TE} (h : PE X e t) (k : ∀ σ H Q, t' σ H Q → t σ H Q) : PE X e t' := ⟨fun pins s σ H Q I q => h.run pins s σ H Q I (k σ H Q q)⟩
open Out (Rt)
/-- a block's context from which the def's own state comes back, its slots as rl tells -/
def LamB (X : Cy) (scope : Scope) (rl : Env2) (Fa : Hp) (Y : Cy) : Prop :=
  ∃ (s : Shared) (H : Hp) (C : Addr) (cl : List (Str × Addr)) (fp : List Addr) (pins : List (Addr × Obj)) (σ0 : L2.St), Y = { X.toCx.blk s H scope (compEnvC scope cl C X.env) fp with F0 := Fa, T := X.T, QX := fun _ _ _ => False } ∧ Ex X.F0 Fa ∧ rl.length = σ0.length ∧
    (∀ (i : Nat) (d : D), rl[i]? = some (.sh d) → ∃ v, σ0[i]? = some (some v) ∧ Rep X.K Fa d v) ∧ ∀ (pins' : List (Addr × Obj)) (σ' : L2.St) (H' : Hp) (s' : Shared), Inv Y.toCx pins' σ' H' s' → Inv X.toCx pins σ0 H' s'
section
variable {X Y : Cy} {tg e elt : Expr} {ifs : List Expr} {r rl : Env2} {G : GD} {pos p : Pos} {Fa : Hp} {scope : Scope}
theorem LamB.k (h : LamB X scope rl Fa Y) : Y.K = X.K := by obtain ⟨_, _, _, _, _, _, _, rfl, _⟩ := h; rfl
theorem LamB.lk {F' T' : Hp} (h : LamB X scope rl Fa Y) (ef : Ex Fa F') (lk : Lk X F' T') : Lk Y F' T' := by
  obtain ⟨_, _, _, _, _, _, _, rfl, ex, _⟩ := h
  exact ⟨lk.t, ef, fun a o ho => (lk.ft a o ho).imp (fun z => ex _ _ z) id⟩
theorem LamB.tk (h : LamB X scope rl Fa Y) : Y.Tk := by
  obtain ⟨_, _, _, _, _, _, _, rfl, _⟩ := h
  exact takes0.imp fun _ _ _ _ ⟨_, _, _, _, _, _, z⟩ => z
end
def Out.seqs {ρ : Type} : List (Out ρ) → Out (List ρ)
  | [] => .ok []
  | m :: ms => m.bind fun v => (Out.seqs ms).bind fun vs => .ok (v :: vs)
open Out (Rt)
section
variable {X : Cy} {tg e elt : Expr} {ifs : List Expr} {sts : List Stmt} {r rl : Env2} {G : GD} {pos p : Pos} {D0 : EndsD} {scope : Scope}
theorem Bas.drop {K : PySem.W.Frag} {F0 T F H : Hp} {G G' : GD} (B : Bas K F0 T F G' H) (h : ∀ a d, G a = some d → G' a = some d) : Bas K F0 T F G H :=
  ⟨B.ff, B.ft, B.fh, fun a d q => B.gh a d (h a d q), fun a o q => B.fg a o (h a o q), fun a o q => B.gt a o (h a o q), B.tk⟩
theorem none_drop {G G' : GD} (h : ∀ a d, G a = some d → G' a = some d) {p : Addr} (q : G' p = none) : G p = none := by
  cases e : G p with
  | none => rfl
  | some d => rw [h p d e] at q; cases q
theorem RtOk.drop {K : PySem.W.Frag} {T F H : Hp} {G G' : GD} (h : ∀ a d, G a = some d → G' a = some d) {x : Res} {v : V} (k : RtOk K T F G' H x v) : RtOk K T F G H x v := by
  cases x with
  | sh d => exact k
  | fr d => obtain ⟨p, k1, k2, k3, k4, k5⟩ := k; exact ⟨p, k1, k2, k3, none_drop h k4, k5⟩
  | pk i => exact k
theorem Frm.sub {G G' : GD} {fp : List Addr} (h : Frm [] G fp G') : ∀ a d, G a = some d → G' a = some d := fun a d q => by
  rw [h.1 a (fun z => nomatch z) (by rw [q]; exact fun z => nomatch z)]; exact q
end
open Out (Rt)
inductive At where
  | s (z : S) | i (n : Int)
deriving DecidableEq
def At.s? : At → Option S
  | .s z => some z
  | .i _ => none
def At.i? : At → Option Int
  | .s _ => none
  | .i n => some n
@[simp] theorem At.s?_s (z : S) : (At.s z).s? = some z := rfl
@[simp] theorem At.s?_i (n : Int) : (At.i n).s? = none := rfl
@[simp] theorem At.i?_s (z : S) : (At.s z).i? = none := rfl
@[simp] theorem At.i?_i (n : Int) : (At.i n).i? = some n := rfl
open Out (Rt)
open Out (Rt)
theorem strOk_iff {x : Str} : PyData.strOk x = true ↔ ∀ c, c ∈ x.cps.toList → c < 0x110000 := by
  unfold PyData.strOk
  rw [← Array.all_toList, List.all_eq_true]
  exact ⟨fun h c hc => of_decide_eq_true (h c hc), fun h c hc => decide_eq_true (h c hc)⟩
theorem strOk_nil : PyData.strOk Str.empty = true := by
  rw [strOk_iff]
  intro c hc
  cases hc
/-- str of a whole number -/
def ziOk (i : Int) : Prop := i.natAbs < 2 ^ 64 ∧ PyData.strOk (toString i) = true
instance instZiOk (i : Int) : Decidable (ziOk i) := by unfold ziOk; infer_instance
def zint (i : Int) : S := if h : PyData.strOk (toString i) = true then ⟨toString i, h⟩ else ⟨Str.empty, strOk_nil⟩
def RegM (G0 : GD) (rows : List (Addr × List Int)) (G : GD) : Prop := (rows.map (·.1)).Nodup ∧ (∀ p, p ∈ rows → G0 p.1 = none ∧ G p.1 = some (.lst (p.2.map D.int))) ∧ ∀ a, a ∉ rows.map (·.1) → G a = G0 a
theorem RegM.nil (G : GD) : RegM G [] G := ⟨List.nodup_nil, (fun _ h => by cases h), fun _ _ => rfl⟩
theorem RegM.add {G0 G : GD} {rows : List (Addr × List Int)} (h : RegM G0 rows G) {p : Addr} (hp : G p = none) (ns : List Int) : RegM G0 (rows ++ [(p, ns)]) (updG G p (.lst (ns.map D.int))) := by
  obtain ⟨h1, h2, h3⟩ := h
  have hn : p ∉ rows.map (·.1) := fun z => by
    obtain ⟨q, hq, e⟩ := List.mem_map.mp z
    have := (h2 q hq).2
    rw [e, hp] at this; cases this
  refine ⟨?_, fun q hq => ?_, fun a ha => ?_⟩
  · rw [List.map_append, List.nodup_append]
    refine ⟨h1, by simp, fun a ha b hb e => ?_⟩
    rw [List.map_singleton, List.mem_singleton] at hb
    subst hb; subst e; exact hn ha
  · rcases List.mem_append.mp hq with z | z
    · have hne : q.1 ≠ p := fun e => hn (e ▸ List.mem_map.mpr ⟨q, z, rfl⟩)
      exact ⟨(h2 q z).1, by rw [updG_ne hne]; exact (h2 q z).2⟩
    · rw [List.mem_singleton] at z; subst z
      exact ⟨by rw [← h3 p hn]; exact hp, updG_same⟩
  · rw [List.map_append, List.mem_append] at ha
    have hne : a ≠ p := fun e => ha (.inr (by simp [e]))
    rw [updG_ne hne]; exact h3 a fun z => ha (.inl z)
theorem RegM.at {G0 G : GD} {rows : List (Addr × List Int)} (h : RegM G0 rows G) {k : Nat} {p : Addr × List Int} (hk : rows[k]? = some p) : G p.1 = some (.lst (p.2.map D.int)) := (h.2.1 p (List.mem_of_getElem? hk)).2
theorem RegM.set {G0 G : GD} {rows : List (Addr × List Int)} (h : RegM G0 rows G) {k : Nat} {a : Addr} {ns ms : List Int} (hk : rows[k]? = some (a, ns)) : RegM G0 (rows.set k (a, ms)) (updG G a (.lst (ms.map D.int))) := by
  obtain ⟨h1, h2, h3⟩ := h
  have hm : (rows.set k (a, ms)).map (·.1) = rows.map (·.1) := by
    refine List.ext_getElem? fun j => ?_
    rw [List.getElem?_map, List.getElem?_map]
    by_cases e : k = j
    · subst e
      rw [List.getElem?_set_self (List.getElem?_eq_some_iff.mp hk).1, hk]; rfl
    · rw [List.getElem?_set_ne e]
  refine ⟨by rw [hm]; exact h1, fun q hq => ?_, fun b hb => ?_⟩
  · obtain ⟨j, hj⟩ := List.mem_iff_getElem?.mp hq
    by_cases e : k = j
    · subst e
      rw [List.getElem?_set_self (List.getElem?_eq_some_iff.mp hk).1] at hj
      cases hj
      exact ⟨(h2 _ (List.mem_of_getElem? hk)).1, updG_same⟩
    · rw [List.getElem?_set_ne e] at hj
      have hqm := List.mem_of_getElem? hj
      have hne : q.1 ≠ a := fun z => by
        have i1 : (rows.map (·.1))[j]? = some a := by rw [List.getElem?_map, hj, ← z]; rfl
        have i2 : (rows.map (·.1))[k]? = some a := by rw [List.getElem?_map, hk]; rfl
        obtain ⟨l1, e1⟩ := List.getElem?_eq_some_iff.mp i1
        obtain ⟨l2, e2⟩ := List.getElem?_eq_some_iff.mp i2
        rcases Nat.lt_or_gt_of_ne e with y | y
        · exact List.pairwise_iff_getElem.mp h1 _ _ l2 l1 y (e2.trans e1.symm)
        · exact List.pairwise_iff_getElem.mp h1 _ _ l1 l2 y (e1.trans e2.symm)
      exact ⟨(h2 q hqm).1, by rw [updG_ne hne]; exact (h2 q hqm).2⟩
  · rw [hm] at hb
    have hne : b ≠ a := fun z => hb (z ▸ List.mem_map.mpr ⟨_, List.mem_of_getElem? hk, rfl⟩)
    rw [updG_ne hne]; exact h3 b hb
open Out (Rt)
open Out (Rt)
open Out (Rt)
def LeafV (v : Value) : Prop := (∃ i t, v = Value.int i t) ∨ ∃ c, v = Value.bool c
def FlatT (h : Heap) (b : Addr) : Prop := ∃ o vs n, h.get? b = some o ∧ o.cls = .type "tuple" ∧ o.data = .seq vs n ∧ ∀ v ∈ vs.toList, LeafV v
/-- the tuple at b is the key k, and flat -/
structure FK (P : Program) (w : World) (h : Heap) (k : NestedKey) (b : Addr) : Prop where
  is : (nestedKind P w).is h k b
  flat : FlatT h b
abbrev FRow := NestedKey × Addr
def rowN (w : World) (p : FRow) : Int × Value := (p.1.hash w, .ref p.2)
section
variable {P : Program} {w : World} {A : Around} {E : Value → Shared → Prop} {s : Shared} {k k' : NestedKey} {a b c : Addr} {L : List FRow}
theorem FK.seqs {h h' : Heap} (x : FK P w h k b) (hk : ∀ c o vs n, h.get? c = some o → o.data = .seq vs n → h'.get? c = some o) : FK P w h' k b where
  is := nestedKind_stays.stays hk x.is
  flat := by
    obtain ⟨o, vs, n, e, c, d, r⟩ := x.flat
    exact ⟨o, vs, n, hk _ _ _ _ e d, c, d, r⟩
/-- a set that changes leaves the tuples -/
theorem FK.beside {h h' : Heap} {o : Obj} {es : Array (Int × Value)} {ep : Nat} {t : SetTable} (x : FK P w h k b) (ho : h.get? a = some o) (hd : o.data = .set es ep t) (sb : Heap.SameBut a h h') : FK P w h' k b :=
  x.seqs fun c oc vs n e ed => (sb.2 c fun z => by subst z; rw [ho] at e; cases e; rw [hd] at ed; cases ed).trans e
theorem leaf_class (n : Nat) {v : Value} (h : LeafV v) : ofAClassStatement n v = pure false := by
  rcases h with ⟨i, t, rfl⟩ | ⟨c, rfl⟩ <;> cases n <;> rfl
theorem leaf_hash (n : Nat) {v : Value} (h : LeafV v) : hashByValue n v = pure true := by
  rcases h with ⟨i, t, rfl⟩ | ⟨c, rfl⟩ <;> cases n <;> rfl
theorem FlatT.type {b : Addr} (h : FlatT s.heap b) : s.TypeIs (.ref b) "tuple" := by
  obtain ⟨o, vs, n, e, c, _⟩ := h
  exact ⟨o, e, c⟩
theorem flat_class {Q : Bool → Shared → Prop} (h : FlatT s.heap b) (q : Q false s) : wpAny (model P w) A (ofAClassStatement 8 (.ref b)) Q E s := by
  have hT := h.type
  obtain ⟨o, vs, n, ho, _, hd, hl⟩ := h
  have tt : ((("tuple" : String) == "tuple") = true) := by decide
  unfold ofAClassStatement
  refine wpAny_bind (wpAny_typeOf hT ?_)
  dsimp only
  simp only [tt, if_true, Bool.not_true, Bool.false_eq_true, if_false]
  try refine wpAny_bind (wpAny_pure ?_)
  try simp only [Bool.not_true, Bool.false_eq_true, if_false]
  show wpAny _ _ (seqItems? (.ref b) >>= _) _ _ s
  refine wpAny_bind (wpAny_seqItems ho hd ?_)
  dsimp only
  refine wpAny_bind ?_
  show wpAny _ _ (forIn vs _ _) _ _ s
  rw [← Array.forIn_toList]
  refine wpAny_forIn_list _ (fun rest r s' => (∀ v ∈ rest, LeafV v) ∧ r.1 = none ∧ s' = s) _ ?_ ?_ _ _ ⟨hl, rfl, rfl⟩
  · rintro v rest r s' ⟨hv, hr, rfl⟩
    rw [leaf_class _ (hv v List.mem_cons_self)]
    refine wpAny_bind (wpAny_pure ?_)
    simp only [Bool.false_eq_true, if_false]
    exact wpAny_pure ⟨fun u hu => hv u (List.mem_cons_of_mem _ hu), rfl, rfl⟩
  · rintro ⟨r1, r2⟩ s' ⟨_, hr, rfl⟩
    simp only at hr
    subst hr
    exact wpAny_pure q
theorem flat_hash {Q : Bool → Shared → Prop} (h : FlatT s.heap b) (q : Q true s) : wpAny (model P w) A (hashByValue 8 (.ref b)) Q E s := by
  have hT := h.type
  obtain ⟨o, vs, n, ho, _, hd, hl⟩ := h
  unfold hashByValue
  refine wpAny_bind (wpAny_specialOf hT F.slot_tuple_hash.lookup ?_)
  show wpAny _ _ (seqItems? (.ref b) >>= _) _ _ s
  refine wpAny_bind (wpAny_seqItems ho hd ?_)
  refine wpAny_bind ?_
  show wpAny _ _ (forIn vs _ _) _ _ s
  rw [← Array.forIn_toList]
  refine wpAny_forIn_list _ (fun rest r s' => (∀ v ∈ rest, LeafV v) ∧ r.1 = none ∧ s' = s) _ ?_ ?_ _ _ ⟨hl, rfl, rfl⟩
  · rintro v rest r s' ⟨hv, hr, rfl⟩
    rw [leaf_hash _ (hv v List.mem_cons_self)]
    refine wpAny_bind (wpAny_pure ?_)
    simp only [Bool.not_true, Bool.false_eq_true, if_false]
    exact wpAny_pure ⟨fun u hu => hv u (List.mem_cons_of_mem _ hu), rfl, rfl⟩
  · rintro ⟨r1, r2⟩ s' ⟨_, hr, rfl⟩
    simp only at hr
    subst hr
    exact wpAny_pure q
theorem flat_unseen {Q : Bool → Shared → Prop} (hx : FK P w s.heap k b) {ys : List Value} (hy : ∀ y ∈ ys, ∃ k' c, y = Value.ref c ∧ FK P w s.heap k' c) (q : Q false s) : wpAny (model P w) A (searchCouldBeSeen (.ref b) ys) Q E s := by
  unfold searchCouldBeSeen
  refine wpAny_bind (wpAny_forIn_list _ (fun rest r s' => (∀ y ∈ rest, ∃ k' c, y = Value.ref c ∧ FK P w s.heap k' c) ∧ r.1 = none ∧ s' = s) _ ?_ ?_ _ _ ⟨hy, rfl, rfl⟩)
  · rintro v rest r s' ⟨hv, hr, rfl⟩
    obtain ⟨k', c, rfl, hc⟩ := hv v List.mem_cons_self
    have tl := fun u hu => hv u (List.mem_cons_of_mem _ hu)
    dsimp only
    by_cases z : (b == c || (carriedByValue (.ref b) && carriedByValue (.ref c))) = true
    · exact wp_if_pos z (wpAny_pure ⟨tl, rfl, rfl⟩)
    · refine wp_if_neg z (wpAny_bind ((nestedKind P w).quiet hx.is ?_))
      simp only [Bool.not_true, Bool.false_eq_true, if_false]
      refine wpAny_bind ((nestedKind P w).quiet hc.is ?_)
      simp only [Bool.not_true, Bool.false_eq_true, if_false]
      refine wpAny_bind (flat_class hx.flat ?_)
      simp only [Bool.false_eq_true, if_false]
      refine wpAny_bind (flat_class hc.flat ?_)
      simp only [Bool.false_eq_true, if_false]
      exact wpAny_pure ⟨tl, rfl, rfl⟩
  · rintro ⟨r1, r2⟩ s' ⟨_, hr, rfl⟩
    simp only at hr
    subst hr
    exact wpAny_pure q
end
/-- the set at a holds the rows of L, in the order of its table t -/
structure NS (P : Program) (w : World) (h : Heap) (a : Addr) (L : List FRow) (es : Array (Int × Value)) (ep : Nat) (t : SetTable) : Prop where
  obj : ∃ o, h.get? a = some o ∧ o.ExactSet ∧ o.data = .set es ep t
  rows : es.toList = L.map (rowN w)
  tab : TabOk t (L.map fun p => p.1.hash w)
  diff : (L.map (·.1)).Nodup
  tup : ∀ p ∈ L, FK P w h p.1 p.2
  plain : t.plain = true
  led : w.params.followText "set-order" = true ∨ t.led = true
  room : L.length * 5 < t.mask * 3
section
variable {P : Program} {w : World} {A : Around} {E : Value → Shared → Prop} {s : Shared} {k : NestedKey} {a b : Addr} {L : List FRow} {es : Array (Int × Value)} {ep : Nat} {t : SetTable}
theorem NS.len (R : NS P w s.heap a L es ep t) : es.size = L.length := by
  rw [← Array.length_toList, R.rows, List.length_map]
theorem NS.placed (R : NS P w s.heap a L es ep t) : t.place.toList.length = L.length := by
  rw [Array.length_toList, R.tab.sz, List.length_map]
theorem NS.fits (R : NS P w s.heap a L es ep t) : t.fits es.size = true := by
  have h1 := R.placed
  have h2 := R.len
  have h3 := R.room
  rw [Array.length_toList] at h1
  unfold SetTable.fits SetTable.fill
  rw [R.tab.dm, Bool.and_eq_true, beq_iff_eq, decide_eq_true_eq]
  show t.place.size = es.size ∧ t.place.size + 0 ≤ t.mask
  omega
theorem NS.ent (R : NS P w s.heap a L es ep t) {i : Nat} {p : FRow} (h : L[i]? = some p) : es[i]? = some (rowN w p) := by
  rw [← Array.getElem?_toList, R.rows, List.getElem?_map, h]; rfl
theorem NS.stays (R : NS P w s.heap a L es ep t) : ¬ t.gaveWay = true := by
  unfold SetTable.gaveWay
  rw [mask_odd R.tab.mok]; decide
/-- the hash that stands at a place of the table -/
abbrev hashAt (es : Array (Int × Value)) (i : Nat) : Int := (es[i]?.map (·.1)).getD 0
theorem NS.hash (R : NS P w s.heap a L es ep t) {i : Nat} {p : FRow} (h : L[i]? = some p) : hashAt es i = p.1.hash w := by
  unfold hashAt; rw [R.ent h]; rfl
/-- step c of the way of a hash -/
abbrev stepN (t : SetTable) (h : Int) (c : Nat) : SetTable.Probe := nth t.mask (runAt t.mask (SetTable.bits h % (t.mask + 1)) (SetTable.bits h)) c
theorem nth_pure (m : Nat) : ∀ (n : Nat) (p : SetTable.Probe), p.dummy = none → (nth m p n).dummy = none
  | 0, _, h => h
  | n + 1, p, h => nth_pure m n _ (by unfold adv; split <;> exact h)
theorem stepN_on (t : SetTable) (h : Int) (c q : Nat) : nth t.mask (stepN t h c) q = stepN t h (c + q) := (nth_add t.mask c _ q).symm
/-- a row with this key comes at or behind step c -/
def Ahead (t : SetTable) (L : List FRow) (k : NestedKey) (h : Int) (c K : Nat) : Prop := ∀ (i : Nat) (p : FRow), L[i]? = some p → p.1 = k → ∃ c', c ≤ c' ∧ c' < K ∧ t.place.toList[i]? = some (way t.mask h c')
/-- one look at the table from step c on: the empty slot, or a row of the same hash whose step is known -/
theorem NS.look (R : NS P w s.heap a L es ep t) (k : NestedKey) {K c : Nat} (hKf : K < 10 * SetTable.turns t.mask) (hK : way t.mask (k.hash w) K ∉ t.place.toList) (hB : ∀ c, c < K → way t.mask (k.hash w) c ∈ t.place.toList) (hc : c ≤ K) (hA : Ahead t L k (k.hash w) c K) :
    (k ∉ L.map (·.1) ∧ t.probe (hashAt es) (k.hash w) (stepN t (k.hash w) c) = some (.empty (way t.mask (k.hash w) K) none)) ∨
    ∃ d i p, c ≤ d ∧ d < K ∧ L[i]? = some p ∧ t.place.toList[i]? = some (way t.mask (k.hash w) d) ∧ t.slot (way t.mask (k.hash w) d) = .live i ∧ (p.1 ≠ k → Ahead t L k (k.hash w) (d + 1) K) ∧
      t.probe (hashAt es) (k.hash w) (stepN t (k.hash w) c) = some (.candidate (way t.mask (k.hash w) d) i (stepN t (k.hash w) (d + 1))) := by
  have jj : ∀ q, (nth t.mask (stepN t (k.hash w) c) q).j = way t.mask (k.hash w) (c + q) := fun q => congrArg SetTable.Probe.j (stepN_on t _ c q)
  have cK : c + (K - c) = K := by omega
  rcases go_spec t R.tab.ris R.tab.dm (hashAt es) (k.hash w) (10 * SetTable.turns t.mask) (K - c) (stepN t (k.hash w) c) (nth_pure _ _ _ rfl) (by omega) (fun q hq => by rw [jj]; exact hB _ (by omega)) (by rw [jj, cK]; exact hK) with ⟨q, i, hq, hi, hh, hno, hp⟩ | ⟨hno, hp⟩
  · right
    rw [jj] at hi
    have hil : i < L.length := by rw [← R.placed]; exact (List.getElem?_eq_some_iff.mp hi).1
    obtain ⟨p, hpi⟩ : ∃ p, L[i]? = some p := ⟨_, List.getElem?_eq_getElem hil⟩
    refine ⟨c + q, i, p, Nat.le_add_right _ _, by omega, hpi, hi, slot_live R.tab.ris hi, fun hne i' p' h1 h2 => ?_, ?_⟩
    · obtain ⟨c', a1, a2, a3⟩ := hA i' p' h1 h2
      refine ⟨c', ?_, a2, a3⟩
      by_cases z : c' < c + q
      · exact absurd ((R.hash h1).trans (congrArg (NestedKey.hash w) h2)) (hno (c' - c) i' (by omega) (by rw [jj, show c + (c' - c) = c' by omega]; exact a3))
      · by_cases y : c' = c + q
        · subst y
          have e := (slot_live R.tab.ris a3).symm.trans (slot_live R.tab.ris hi)
          injection e with e
          subst e
          rw [hpi] at h1
          cases h1
          exact absurd h2 hne
        · omega
    · unfold SetTable.probe
      have e2 := stepN_on t (k.hash w) c (q + 1)
      rw [jj, e2] at hp
      exact hp
  · left
    refine ⟨fun hm => ?_, ?_⟩
    · obtain ⟨p, hp1, hp2⟩ := List.mem_map.mp hm
      obtain ⟨i, hi⟩ := List.getElem?_of_mem hp1
      obtain ⟨c', a1, a2, a3⟩ := hA i p hi hp2
      exact hno (c' - c) i (by omega) (by rw [jj, show c + (c' - c) = c' by omega]; exact a3) ((R.hash hi).trans (congrArg (NestedKey.hash w) hp2))
    · unfold SetTable.probe
      rw [jj, cK] at hp
      exact hp
end
section
variable {P : Program} {w : World} {A : Around} {E : Value → Shared → Prop} {s : Shared} {k : NestedKey} {a b : Addr} {L : List FRow} {es : Array (Int × Value)} {ep : Nat} {t : SetTable}
theorem NS.search (R : NS P w s.heap a L es ep t) (hx : FK P w s.heap k b) (hu : A.units + 8 < cLine) {K : Nat} (hKf : K < 10 * SetTable.turns t.mask) (hK : way t.mask (k.hash w) K ∉ t.place.toList) (hB : ∀ c, c < K → way t.mask (k.hash w) c ∈ t.place.toList)
    {Q : SetFound → Shared → Prop} (hin : k ∈ L.map (·.1) → Q (.there none) s) (hout : k ∉ L.map (·.1) → Q (.free (way t.mask (k.hash w) K) false) s) :
    ∀ (f c : Nat) (st : Option SetTable.Probe), c ≤ K → K < c + f → st.getD (t.probeStart (k.hash w)) = stepN t (k.hash w) c → Ahead t L k (k.hash w) c K → wpAny (model P w) A (setSearchFrom a (.ref b) (k.hash w) true f st) Q E s := by
  obtain ⟨o, ho, hex, hd⟩ := R.obj
  intro f
  induction f with
  | zero => intro c st h1 h2; omega
  | succ f ih =>
    intro c st hc hf hst hA
    rw [setSearchFrom_succ]
    refine wpAny_bind (wpAny_setState_of ho hd R.fits ?_)
    dsimp only
    refine wp_if_neg R.stays ?_
    try refine wpAny_bind (wpAny_pure ?_)
    rw [hst]
    rcases R.look k hKf hK hB hc hA with ⟨hno, hp⟩ | ⟨d, i, p, h1, h2, hpi, hpl, hsl, hA', hp⟩
    · unfold hashAt at hp
      rw [hp]
      exact wpAny_pure (hout hno)
    · unfold hashAt at hp
      rw [hp]
      dsimp only
      have hmem := List.mem_of_getElem? hpi
      have go : wpAny (model P w) A (searchRest a (.ref b) (k.hash w) true f es t (way t.mask (k.hash w) d) i (stepN t (k.hash w) (d + 1))) Q E s := by
        unfold searchRest
        rw [R.ent hpi]
        show wpAny _ _ (holding [Value.ref p.2] (eqBool (.ref p.2) (.ref b)) >>= _) _ _ s
        refine wpAny_bind (wpAny_holding ((nestedKind P w).eqBool hu (R.tup p hmem).is hx.is ?_))
        refine wpAny_bind (wpAny_setState_of ho hd R.fits ?_)
        dsimp only
        by_cases z : p.1 = k
        · exact wp_if_pos (by simp [z]) (wpAny_pure (hin (List.mem_map.mpr ⟨p, hmem, z⟩)))
        · refine wp_if_neg (by simp [z]) ?_
          try refine wpAny_bind (wpAny_pure ?_)
          rw [show t.sameMemory t.moves t.mask = some true from if_pos (beq_self_eq_true _)]
          simp only [if_true, hsl, R.ent hpi, rowN]
          refine wpAny_bind (wpAny_isSame_ref_self (wpAny_bind (wpAny_pure ?_)))
          simp only [if_true]
          refine wp_if_neg (by simp [z]) ?_
          exact ih (d + 1) _ (by omega) (by omega) rfl (hA' z)
      by_cases z : t.led = true
      · refine wp_if_neg (by simp [z]) ?_
        try refine wpAny_bind (wpAny_pure ?_)
        exact go
      · refine wp_if_pos (by simp [z]) (wpAny_bind (flat_unseen hx (fun y hy => ?_) ?_))
        · obtain ⟨e, he, rfl⟩ := List.mem_map.mp hy
          have he' : e ∈ es.toList := by
            have : e ∈ es ∧ e.1 = k.hash w := by simpa using he
            simpa using this.1
          rw [R.rows] at he'
          obtain ⟨p2, q1, rfl⟩ := List.mem_map.mp he'
          exact ⟨p2.1, p2.2, rfl, R.tup p2 q1⟩
        · refine wp_if_neg (by decide) ?_
          try refine wpAny_bind (wpAny_pure ?_)
          exact go
theorem NS.find (R : NS P w s.heap a L es ep t) (hx : FK P w s.heap k b) (hu : A.units + 8 < cLine) {Q : SetFound → Shared → Prop} (hin : k ∈ L.map (·.1) → Q (.there none) s)
    (hout : ∀ K, k ∉ L.map (·.1) → way t.mask (k.hash w) K ∉ t.place.toList → (∀ c, c < K → way t.mask (k.hash w) c ∈ t.place.toList) → Q (.free (way t.mask (k.hash w) K) false) s) :
    wpAny (model P w) A (setSearch a (.ref b) (k.hash w) true) Q E s := by
  have hr := R.room
  obtain ⟨K, hKf, hK, hB⟩ := R.tab.first (by rw [List.length_map]; omega) (k.hash w)
  have hb : 10 * SetTable.turns t.mask ≤ 1420 := by
    unfold SetTable.turns
    rcases R.tab.mok with e | e | e <;> rw [e] <;> decide
  unfold setSearch
  refine R.search hx hu hKf hK hB hin (fun h => hout K h hK hB) 100000 0 none (Nat.zero_le _) (by omega) rfl fun i p h1 h2 => ?_
  have hil : i < t.place.toList.length := by rw [R.placed]; exact (List.getElem?_eq_some_iff.mp h1).1
  have hj := List.getElem?_eq_getElem hil
  obtain ⟨c, h3, h4⟩ := R.tab.before (h := k.hash w) hK (i := i) (by rw [List.getElem?_map, h1, ← h2]; rfl) hj
  exact ⟨c, Nat.zero_le _, h3, by rw [hj, h4]⟩
theorem range_pick {α : Type} : ∀ l : List α, (List.range l.length).filterMap (fun i => l[i]?) = l
  | [] => rfl
  | x :: l => by
    rw [List.length_cons, List.range_succ_eq_map, List.filterMap_cons_some (f := fun i => (x :: l)[i]?) (a := 0) (b := x) rfl, List.filterMap_map]
    exact congrArg (x :: ·) (range_pick l)
theorem pick_map {α β : Type} (f : α → β) (l : List α) : ∀ o : List Nat, o.filterMap (fun i => (l.map f)[i]?) = (o.filterMap fun i => l[i]?).map f
  | [] => rfl
  | i :: o => by
    have ih := pick_map f l o
    rw [List.filterMap_cons, List.filterMap_cons, List.getElem?_map]
    cases l[i]? with
    | none => exact ih
    | some x => exact congrArg (f x :: ·) ih
theorem pick_getD {α β : Type} [Inhabited β] (f : α → β) (l : List α) (g : Nat → β) (hg : ∀ i x, l[i]? = some x → g i = f x) : ∀ o : List Nat, (∀ i ∈ o, i < l.length) → o.map g = (o.filterMap fun i => l[i]?).map f
  | [], _ => rfl
  | i :: o, h => by
    have e := List.getElem?_eq_getElem (h i List.mem_cons_self)
    rw [List.filterMap_cons, e, List.map_cons, pick_getD f l g hg o fun j hj => h j (List.mem_cons_of_mem _ hj), hg i _ e]
    rfl
/-- all rows laid anew in a table of 32 places -/
theorem ns_relay {o : Obj} (ho : s.heap.get? a = some o) (hex : o.ExactSet) (hd : o.data = .set es ep t) (hrows : es.toList = L.map (rowN w)) (hf : t.fits es.size = true) (diff : (L.map (·.1)).Nodup) (tup : ∀ p ∈ L, FK P w s.heap p.1 p.2)
    (pl : t.plain = true) (ld : w.params.followText "set-order" = true ∨ t.led = true) (h5 : L.length = 5) {Q : Unit → Shared → Prop}
    (q : ∀ h' L' es' ep' t', Heap.SameBut a s.heap h' → NS P w h' a L' es' ep' t' → L'.Perm L → Q () { s with heap := h' }) : wpAny (model P w) A (setRelay a (SetTable.grown 5)) Q E s := by
  have hn : es.size = 5 := by rw [← Array.length_toList, hrows, List.length_map, h5]
  obtain ⟨t', ord, e1, e2, T, e3, e4, e5, e6⟩ := relaid_ok t (hs := es.map (·.1)) (wanted := SetTable.grown 5) (M := 31) (by rw [size_20]) (.inr (.inl rfl)) (by rw [Array.size_map, hn]; decide)
  rw [Array.size_map, hn, ← h5] at e2
  have hin : ∀ i ∈ ord.toList, i < L.length := fun i hi => List.mem_range.mp (e2.mem_iff.mp hi)
  have eg : ∀ i : Nat, es[i]? = (L.map (rowN w))[i]? := fun i => by rw [← Array.getElem?_toList, hrows]
  have hes : (ord.filterMap (es[·]?)).toList = (ord.toList.filterMap fun i => L[i]?).map (rowN w) := by
    rw [Array.toList_filterMap, ← pick_map]
    exact congrArg (fun f => List.filterMap f ord.toList) (funext eg)
  have hpm : (ord.toList.filterMap fun i => L[i]?).Perm L := by
    have := e2.filterMap (fun i => L[i]?)
    rwa [range_pick] at this
  rw [pick_getD (fun p : FRow => p.1.hash w) L _ (fun i x hx => by
    have e : (es.map (·.1))[i]? = some (x.1.hash w) := by rw [Array.getElem?_map, eg, List.getElem?_map, hx]; rfl
    simp [Array.getD_eq_getD_getElem?, e]) _ hin] at T
  generalize (ord.toList.filterMap fun i => L[i]?) = L' at hes hpm T
  have hsz : (ord.filterMap (es[·]?)).size = 5 := by rw [← Array.length_toList, hes, List.length_map, hpm.length_eq, h5]
  rw [setRelay_eq]
  refine wpAny_bind (wpAny_setState_of ho hd hf ?_)
  dsimp only
  refine wp_if_neg (by rw [size_20, sizeLine_eq]; omega) ?_
  try refine wpAny_bind (wpAny_pure ?_)
  rw [e1]
  dsimp only
  refine wpAny_bind (wp_if_neg (by rw [hsz, hn]; simp) ?_)
  try refine wpAny_bind (wpAny_pure ?_)
  refine wpAny_pure ?_
  dsimp only
  refine wpAny_storeSet_of ho hd ?_ (by rw [hsz, sizeLine_eq]; omega)
  have sb : Heap.SameBut a s.heap (s.heap.update a (Obj.putSet (ord.filterMap (es[·]?)) t')) := Heap.SameBut.update ..
  exact q _ L' _ (ep + 1) t' sb ⟨⟨_, store_at ho hd, ⟨hex.1, hex.2.1, hex.2.2⟩, rfl⟩, hes, T, (hpm.map (·.1)).nodup_iff.mpr diff, fun p hp => (tup p (hpm.mem_iff.mp hp)).beside ho hd sb, by rw [e5]; exact pl, by rw [e4]; exact ld, by rw [hpm.length_eq, h5, e3]; decide⟩ hpm
/-- what a set holds when k was put into L -/
def Put (L : List FRow) (k : NestedKey) (b : Addr) (L' : List FRow) : Prop := (k ∈ L.map (·.1) → L' = L) ∧ (k ∉ L.map (·.1) → L'.Perm ((k, b) :: L))
theorem NS.put (R : NS P w s.heap a L es ep t) (hx : FK P w s.heap k b) (hu : A.units + 8 < cLine) (few : k ∉ L.map (·.1) → L.length < 18) {Q : Bool → Shared → Prop}
    (q : ∀ z h' L' es' ep' t', Heap.SameBut a s.heap h' → NS P w h' a L' es' ep' t' → Put L k b L' → Q z { s with heap := h' }) : wpAny (model P w) A (setAddHashed a (.ref b) (k.hash w)) Q E s := by
  obtain ⟨o, ho, hex, hd⟩ := R.obj
  have hlen := R.len
  have hroom := R.room
  unfold setAddHashed
  refine wpAny_holding ?_
  rw [show (100000 : Nat) = 99999 + 1 from rfl, setAddHashedIn_succ]
  refine wpAny_bind (wpAny_setState_of ho hd R.fits ?_)
  dsimp only
  refine wp_if_neg (by simp [byScan, Value.scannable]) ?_
  try refine wpAny_bind (wpAny_pure ?_)
  refine wpAny_bind (R.find hx hu (fun hm => ?_) fun K hm hK hB => ?_)
  · exact wpAny_pure (q false s.heap L es ep t (Heap.SameBut.refl a s.heap) R ⟨fun _ => rfl, fun z => absurd hm z⟩)
  have few := few hm
  dsimp only
  refine wpAny_bind (wpAny_setState_of ho hd R.fits ?_)
  dsimp only
  obtain ⟨g1, g2, g3, g4, g5, g6, g7, g8, g9⟩ := R.tab.put hK hB
  rw [List.length_map] at g2 g9
  generalize hj : way t.mask (k.hash w) K = j at g1 g2 g3 g4 g5 g6 g7 g8 g9 ⊢
  generalize hn : SetTable.below t.place j = n at g1 g2 g3
  generalize hp : t.put j = tp at g1 g3 g4 g5 g6 g7 g8 g9 ⊢
  obtain ⟨t1, n1⟩ := tp
  dsimp only at g1 g3 g4 g5 g6 g7 g8 g9 ⊢
  subst g1
  have pl1 : t1.plain = true := g6.trans R.plain
  have ld1 : w.params.followText "set-order" = true ∨ t1.led = true := by rw [g5]; exact R.led
  first
    | (refine wpAny_bind ?_; refine wp_if_pos pl1 ?_; refine flat_hash hx.flat ?_)
    | refine wp_if_pos pl1 (wpAny_bind (flat_hash hx.flat ?_))
  simp only [if_true]
  have pm : (L.take n1 ++ (k, b) :: L.drop n1).Perm ((k, b) :: L) := by
    have h : (L.take n1 ++ (k, b) :: L.drop n1).Perm ((k, b) :: (L.take n1 ++ L.drop n1)) := List.perm_middle
    rwa [List.take_append_drop] at h
  have hin : (SetTable.insertAt es n1 (k.hash w, Value.ref b)).toList = (L.take n1 ++ (k, b) :: L.drop n1).map (rowN w) := by
    rw [SetTable.toList_insertAt, R.rows, List.map_append, List.map_cons, List.map_take, List.map_drop]; rfl
  have hh : (L.map fun p => p.1.hash w).take n1 ++ k.hash w :: (L.map fun p => p.1.hash w).drop n1 = (L.take n1 ++ (k, b) :: L.drop n1).map fun p => p.1.hash w := by
    rw [List.map_append, List.map_cons, List.map_take, List.map_drop]
  rw [hh] at g3
  generalize L.take n1 ++ (k, b) :: L.drop n1 = L1 at pm hin g3
  generalize SetTable.insertAt es n1 (k.hash w, Value.ref b) = es1 at hin ⊢
  have l1 : L1.length = L.length + 1 := pm.length_eq
  have hs1 : es1.size = L.length + 1 := by rw [← Array.length_toList, hin, List.length_map, l1]
  have diff1 : (L1.map (·.1)).Nodup := (pm.map (·.1)).nodup_iff.mpr (List.nodup_cons.mpr ⟨hm, R.diff⟩)
  refine wpAny_bind (wpAny_storeSet_of ho hd ?_ (by rw [hs1, sizeLine_eq]; omega))
  have sb : Heap.SameBut a s.heap (s.heap.update a (Obj.putSet es1 t1)) := Heap.SameBut.update ..
  have ho1 := store_at (es' := es1) (t' := t1) ho hd
  generalize s.heap.update a (Obj.putSet es1 t1) = h1 at sb ho1 ⊢
  have tup1 : ∀ p ∈ L1, FK P w h1 p.1 p.2 := fun p hp => by
    rcases List.mem_cons.mp (pm.mem_iff.mp hp) with e | hp
    · subst e; exact hx.beside ho hd sb
    · exact (R.tup p hp).beside ho hd sb
  have put1 : Put L k b L1 := ⟨fun z => absurd z hm, fun _ => pm⟩
  have ftf : t1.tooFull = decide ((L.length + 1) * 5 ≥ t.mask * 3) := by
    unfold SetTable.tooFull
    rw [g9, g4]
  by_cases z : t1.tooFull = true
  · have hfull := z
    rw [ftf, decide_eq_true_eq] at hfull
    have h4 : t.mask = 7 ∧ L.length = 4 := by
      rcases R.tab.mok with e | e | e <;> rw [e] at hfull hroom
      · exact ⟨e, by omega⟩
      · omega
      · omega
    have pl : t1.place.size = es1.size := by
      have := g3.sz
      rw [List.length_map, l1] at this
      rw [this, hs1]
    have fit1 : t1.fits es1.size = true := by
      unfold SetTable.fits SetTable.fill
      rw [g3.dm, Bool.and_eq_true, beq_iff_eq, decide_eq_true_eq]
      refine ⟨pl, ?_⟩
      show t1.place.size + 0 ≤ t1.mask
      rw [pl, hs1, g4, h4.1, h4.2]; decide
    first
      | (refine wpAny_bind ?_; refine wp_if_pos (by simp [z]) ?_)
      | (refine wp_if_pos (by simp [z]) ?_; refine wpAny_bind ?_)
    rw [hlen, h4.2]
    refine ns_relay (s := { s with heap := h1 }) ho1 ⟨hex.1, hex.2.1, hex.2.2⟩ rfl hin fit1 diff1 tup1 pl1 ld1 (by rw [l1, h4.2]) fun h2 L2 es2 ep2 t2 sb2 R2 pm2 => ?_
    exact wpAny_pure (q true h2 L2 es2 ep2 t2 (sb.trans sb2) R2 ⟨fun y => absurd y hm, fun _ => pm2.trans pm⟩)
  · have hfull := z
    rw [ftf, decide_eq_true_eq] at hfull
    first
      | refine wp_if_neg (by simp [z]) ?_
      | (refine wpAny_bind ?_; refine wp_if_neg (by simp [z]) ?_; refine wpAny_pure ?_)
    exact wpAny_pure (q true h1 L1 es1 (ep + 1) t1 sb ⟨⟨_, ho1, ⟨hex.1, hex.2.1, hex.2.2⟩, rfl⟩, hin, g3, diff1, tup1, pl1, ld1, by rw [l1, g4]; omega⟩ put1)
end
/-- what stands in the set when the rows xs went in -/
structure InN (xs L : List FRow) : Prop where
  sub : ∀ p ∈ L, p ∈ xs
  all : ∀ p ∈ xs, p.1 ∈ L.map (·.1)
theorem InN.next {xs L L' : List FRow} {k : NestedKey} {b : Addr} (g : InN xs L) (h : Put L k b L') : InN (xs ++ [(k, b)]) L' := by
  by_cases z : k ∈ L.map (·.1)
  · rw [h.1 z]
    refine ⟨fun p hp => List.mem_append_left _ (g.sub p hp), fun p hp => ?_⟩
    rcases List.mem_append.mp hp with y | y
    · exact g.all p y
    · rw [List.mem_singleton.mp y]; exact z
  · have pm := h.2 z
    refine ⟨fun p hp => ?_, fun p hp => ?_⟩
    · rcases List.mem_cons.mp (pm.mem_iff.mp hp) with y | y
      · rw [y]; exact List.mem_append_right _ List.mem_cons_self
      · exact List.mem_append_left _ (g.sub p y)
    · rw [(pm.map (·.1)).mem_iff, List.map_cons]
      rcases List.mem_append.mp hp with y | y
      · exact List.mem_cons_of_mem _ (g.all p y)
      · rw [List.mem_singleton.mp y]; exact List.mem_cons_self
open Out (Rt)
open Out (Rt)
open Out (Rt)
open Out (Rt)
open Out (Rt)
open Out (Rt)
open Out (Rt)
open Out (Rt)
open Out (Rt)
open Out (Rt)
/-- what is known of the slots, is and vs side by side -/
def SlK (is : List Nat) (vs : List V) (us : List (Option V)) : Prop := ∀ (j i : Nat) (v : V), is[j]? = some i → vs[j]? = some v → us[i]? = some (some v)
theorem SlK.put {i : Nat} {v : V} : ∀ {ks : List Nat} {xs : List V} {us : List (Option V)}, SlK ks xs us → i ∉ ks → SlK ks xs (SlX.putS i v us) := fun {ks xs us} h hn j k x h1 h2 =>
  (SlX.putS_ne (fun z => hn (by rw [← z]; exact List.mem_of_getElem? h1))).mpr (h j k x h1 h2)
section
variable {X : Cy} {a b e o : Expr} {es : List Expr} {r : Env2} {G : GD} {pos p0 p apos lpos : Pos} {α β ρ τ σT A R : Type} {D0 : EndsD} {f : Str} {sts : List Stmt} {cx : Nat → Addr}
def slA (C o : Addr) (is : List Nat) (ds : List D) : As := fun fp G => ∃ dx, fp = [o, dx] ∧ dx ≠ o ∧ is.Nodup ∧ G o = some (.slo C dx is ds) ∧ G dx = some (.xdo o true)
end
open Out (Rt)
theorem Sta.drop {K : PySem.W.Frag} {F0 T F H : Hp} {G G' : GD} {r : Env2} {σ : L2.St} (S : Sta K F0 T F G' H r σ) (h : ∀ a d, G a = some d → G' a = some d) : Sta K F0 T F G H r σ :=
  ⟨S.bas.drop h, S.len, fun i s e => by
    have k := S.sl i s e
    cases s with
    | no => exact k
    | sh d => exact k
    | own d => obtain ⟨p, k1, k2, k3, k4, k5⟩ := k; exact ⟨p, k1, k2, k3, none_drop h k4, k5⟩, S.ap⟩
open Out (Rt)
open Out (Rt)
open Out (Rt)
open Out (Rt)
def TabsG : List (Addr × Str) → GD → Prop
  | [], _ => True
  | p :: ts, G => G p.1 = some (.tab p.2) ∧ TabsG ts G
theorem TabsG.get {ts : List (Addr × Str)} {G : GD} (h : TabsG ts G) : ∀ {i : Nat} {p : Addr × Str}, ts[i]? = some p → G p.1 = some (.tab p.2) := by
  induction ts with
  | nil => intro i p e; cases e
  | cons q ts ih =>
    intro i p e
    cases i with
    | zero => cases e; exact h.1
    | succ i => exact ih h.2 e
theorem TabsG.mono {ts : List (Addr × Str)} {G G' : GD} (h : TabsG ts G) (k : ∀ a q, G a = some (.tab q) → G' a = some (.tab q)) : TabsG ts G' := by
  induction ts with
  | nil => exact True.intro
  | cons q ts ih => exact ⟨k _ _ h.1, ih h.2⟩
theorem TabsG.sub {ts : List (Addr × Str)} {G G' : GD} (h : TabsG ts G) (k : ∀ a d, G a = some d → G' a = some d) : TabsG ts G' := h.mono fun a q z => k a _ z
inductive LnsA (C : Addr) (is : List Nat) {τ : Type} (fl : τ → List D) : List Addr → List τ → List Addr → GD → Prop
  | nil {G : GD} : LnsA C is fl [] [] [] G
  | cons {o : Addr} {l : τ} {os : List Addr} {ls : List τ} {fp1 fp2 : List Addr} {G : GD} (h : slA C o is (fl l) fp1 G) (t : LnsA C is fl os ls fp2 G) (d : ∀ a ∈ fp1, a ∉ fp2) : LnsA C is fl (o :: os) (l :: ls) (fp1 ++ fp2) G
section
variable {C : Addr} {is : List Nat} {τ : Type} {fl : τ → List D}
theorem LnsA.len {os : List Addr} {ls : List τ} {fp : List Addr} {G : GD} (h : LnsA C is fl os ls fp G) : os.length = ls.length := by
  induction h with
  | nil => rfl
  | cons _ _ _ ih => rw [List.length_cons, List.length_cons, ih]
theorem LnsA.snoc {os : List Addr} {ls : List τ} {fp fp1 : List Addr} {G : GD} {o : Addr} {l : τ} (h : LnsA C is fl os ls fp G) (h1 : slA C o is (fl l) fp1 G) : (∀ a ∈ fp, a ∉ fp1) → LnsA C is fl (os ++ [o]) (ls ++ [l]) (fp ++ fp1) G := by
  induction h with
  | nil => intro _; have := LnsA.cons h1 (LnsA.nil (C := C) (is := is) (fl := fl)) (fun a _ z => nomatch z); rw [List.append_nil] at this; exact this
  | cons h t d ih =>
    intro k
    rw [List.append_assoc]
    exact .cons h (ih h1 fun a ha => k a (List.mem_append_right _ ha)) fun a ha z => by
      rcases List.mem_append.mp z with z | z
      · exact d a ha z
      · exact k a (List.mem_append_left _ ha) z
end
open Out (Rt)
open Out (Rt)
open Out (Rt)
open Out (Rt)
def RegD (G0 : GD) (rows : List (Addr × List D)) (G : GD) : Prop := (rows.map (·.1)).Nodup ∧ (∀ p, p ∈ rows → G0 p.1 = none ∧ G p.1 = some (.lst p.2)) ∧ ∀ a, a ∉ rows.map (·.1) → G a = G0 a
theorem RegD.nil (G : GD) : RegD G [] G := ⟨List.nodup_nil, (fun _ h => by cases h), fun _ _ => rfl⟩
theorem RegD.fresh {G0 G : GD} {rows : List (Addr × List D)} (h : RegD G0 rows G) {p : Addr} (hp : G p = none) : p ∉ rows.map (·.1) := fun z => by
  obtain ⟨q, hq, e⟩ := List.mem_map.mp z
  have := (h.2.1 q hq).2
  rw [e, hp] at this; cases this
theorem RegD.perm {G0 G : GD} {rows rows' : List (Addr × List D)} (h : RegD G0 rows G) (p : rows.Perm rows') : RegD G0 rows' G :=
  ⟨((p.map _).nodup_iff).mp h.1, fun q hq => h.2.1 q (p.mem_iff.mpr hq), fun a ha => h.2.2 a fun z => ha ((p.map _).mem_iff.mp z)⟩
theorem RegD.cons {G0 G : GD} {rows : List (Addr × List D)} (h : RegD G0 rows G) {p : Addr} (hp : G p = none) (ds : List D) : RegD G0 ((p, ds) :: rows) (updG G p (.lst ds)) := by
  have hn := h.fresh hp
  obtain ⟨h1, h2, h3⟩ := h
  refine ⟨List.nodup_cons.mpr ⟨hn, h1⟩, fun q hq => ?_, fun a ha => ?_⟩
  · rcases List.mem_cons.mp hq with z | z
    · subst z; exact ⟨by rw [← h3 p hn]; exact hp, updG_same⟩
    · have hne : q.1 ≠ p := fun e => hn (e ▸ List.mem_map.mpr ⟨q, z, rfl⟩)
      exact ⟨(h2 q z).1, by rw [updG_ne hne]; exact (h2 q z).2⟩
  · rw [List.map_cons] at ha
    have hne : a ≠ p := fun e => ha (e ▸ List.mem_cons_self)
    rw [updG_ne hne]; exact h3 a fun z => ha (List.mem_cons_of_mem _ z)
theorem RegD.ins {G0 G : GD} {rows : List (Addr × List D)} (h : RegD G0 rows G) {p : Addr} (hp : G p = none) (ds : List D) (k : Nat) : RegD G0 (rows.take k ++ [(p, ds)] ++ rows.drop k) (updG G p (.lst ds)) := by
  refine (h.cons hp ds).perm ?_
  have e : (p, ds) :: rows = (p, ds) :: (rows.take k ++ rows.drop k) := by rw [List.take_append_drop]
  rw [e, List.append_assoc]
  exact (List.perm_middle).symm
theorem RegD.at {G0 G : GD} {rows : List (Addr × List D)} (h : RegD G0 rows G) {k : Nat} {p : Addr × List D} (hk : rows[k]? = some p) : G p.1 = some (.lst p.2) := (h.2.1 p (List.mem_of_getElem? hk)).2
theorem RegD.set {G0 G : GD} {rows : List (Addr × List D)} (h : RegD G0 rows G) {k : Nat} {a : Addr} {ds es : List D} (hk : rows[k]? = some (a, ds)) : RegD G0 (rows.set k (a, es)) (updG G a (.lst es)) := by
  obtain ⟨h1, h2, h3⟩ := h
  have hm : (rows.set k (a, es)).map (·.1) = rows.map (·.1) := by
    refine List.ext_getElem? fun j => ?_
    rw [List.getElem?_map, List.getElem?_map]
    by_cases e : k = j
    · subst e
      rw [List.getElem?_set_self (List.getElem?_eq_some_iff.mp hk).1, hk]; rfl
    · rw [List.getElem?_set_ne e]
  refine ⟨by rw [hm]; exact h1, fun q hq => ?_, fun b hb => ?_⟩
  · obtain ⟨j, hj⟩ := List.mem_iff_getElem?.mp hq
    by_cases e : k = j
    · subst e
      rw [List.getElem?_set_self (List.getElem?_eq_some_iff.mp hk).1] at hj
      cases hj
      exact ⟨(h2 _ (List.mem_of_getElem? hk)).1, updG_same⟩
    · rw [List.getElem?_set_ne e] at hj
      have hqm := List.mem_of_getElem? hj
      have hne : q.1 ≠ a := fun z => by
        have i1 : (rows.map (·.1))[j]? = some a := by rw [List.getElem?_map, hj, ← z]; rfl
        have i2 : (rows.map (·.1))[k]? = some a := by rw [List.getElem?_map, hk]; rfl
        obtain ⟨l1, e1⟩ := List.getElem?_eq_some_iff.mp i1
        obtain ⟨l2, e2⟩ := List.getElem?_eq_some_iff.mp i2
        rcases Nat.lt_or_gt_of_ne e with y | y
        · exact List.pairwise_iff_getElem.mp h1 _ _ l2 l1 y (e2.trans e1.symm)
        · exact List.pairwise_iff_getElem.mp h1 _ _ l1 l2 y (e1.trans e2.symm)
      exact ⟨(h2 q hqm).1, by rw [updG_ne hne]; exact (h2 q hqm).2⟩
  · rw [hm] at hb
    have hne : b ≠ a := fun z => hb (z ▸ List.mem_map.mpr ⟨_, List.mem_of_getElem? hk, rfl⟩)
    rw [updG_ne hne]; exact h3 b hb
/-- a row that nobody holds any more -/
def delG (G : GD) (a : Addr) : GD := fun b => if b = a then none else G b
theorem eraseIdx_mem {α : Type} : ∀ {xs : List α} {k : Nat} {q : α}, q ∈ xs.eraseIdx k → ∃ j, j ≠ k ∧ xs[j]? = some q := fun {xs k q} h => by
  rw [List.mem_eraseIdx_iff_getElem?] at h
  exact h
theorem RegD.erase {G0 G : GD} {rows : List (Addr × List D)} (h : RegD G0 rows G) {k : Nat} {a : Addr} {ds : List D} (hk : rows[k]? = some (a, ds)) : RegD G0 (rows.eraseIdx k) (delG G a) := by
  have hlt := (List.getElem?_eq_some_iff.mp hk).1
  have hz : G0 a = none := (h.2.1 _ (List.mem_of_getElem? hk)).1
  have other : ∀ p, p ∈ rows.eraseIdx k → p.1 ≠ a := fun p hp e => by
    obtain ⟨j, hj, hjp⟩ := eraseIdx_mem hp
    have i1 : (rows.map (·.1))[j]? = some a := by rw [List.getElem?_map, hjp, ← e]; rfl
    have i2 : (rows.map (·.1))[k]? = some a := by rw [List.getElem?_map, hk]; rfl
    obtain ⟨l1, e1⟩ := List.getElem?_eq_some_iff.mp i1
    obtain ⟨l2, e2⟩ := List.getElem?_eq_some_iff.mp i2
    rcases Nat.lt_or_gt_of_ne hj with y | y
    · exact List.pairwise_iff_getElem.mp h.1 _ _ l1 l2 y (e1.trans e2.symm)
    · exact List.pairwise_iff_getElem.mp h.1 _ _ l2 l1 y (e2.trans e1.symm)
  refine ⟨h.1.sublist ((List.eraseIdx_sublist _ _).map _), fun p hp => ?_, fun c hc => ?_⟩
  · have := h.2.1 p (List.mem_of_mem_eraseIdx hp)
    exact ⟨this.1, by unfold delG; rw [if_neg (other p hp)]; exact this.2⟩
  · unfold delG
    by_cases e : c = a
    · rw [if_pos e, e, hz]
    · rw [if_neg e]
      refine h.2.2 c fun z => ?_
      obtain ⟨q, hq, e2⟩ := List.mem_map.mp z
      obtain ⟨j, hj⟩ := List.mem_iff_getElem?.mp hq
      refine hc (List.mem_map.mpr ⟨q, ?_, e2⟩)
      rw [List.mem_eraseIdx_iff_getElem?]
      refine ⟨j, fun w => ?_, hj⟩
      subst w
      rw [hk] at hj
      cases hj
      exact e e2.symm
noncomputable instance : DecidableEq D := fun a b => Classical.propDecidable _
def Cy.blkQ (X : Cy) (s : Shared) (H : Hp) (scope : Scope) (env : Env) (fp : List Addr) (xb : Value → Shared → Prop) : Cy := { (X.toCx.blk s H scope env fp).wish xb with F0 := X.F0, T := X.T, QX := X.QX }
def BlkQ (X : Cy) (scope : Scope) (Y : Cy) : Prop := ∃ (s : Shared) (H : Hp) (C : Addr) (cl : List (Str × Addr)) (fp : List Addr) (xb : Value → Shared → Prop) (_ : (X.blkQ s H scope (compEnvC scope cl C X.env) fp xb).Tk), Y = X.blkQ s H scope (compEnvC scope cl C X.env) fp xb
section
variable {X : Cy}
theorem BlkQ.k {scope : Scope} {Y : Cy} (h : BlkQ X scope Y) : Y.K = X.K := by obtain ⟨_, _, _, _, _, _, _, rfl⟩ := h; rfl
theorem BlkQ.lk {scope : Scope} {Y : Cy} {F0 T : Hp} (h : BlkQ X scope Y) (lk : Lk X F0 T) : Lk Y F0 T := by obtain ⟨_, _, _, _, _, _, _, rfl⟩ := h; exact ⟨lk.t, lk.f, lk.ft⟩
end
open Out (Rt)
open Out (Rt)
open Out (Rt)
def At.str : At → S
  | .s z => z
  | .i n => zint n
def At.sok : At → Prop
  | .s _ => True
  | .i n => ziOk n
instance instAtSok (x : At) : Decidable x.sok := by
  cases x with
  | s z => exact .isTrue trivial
  | i n => exact instZiOk n
open Out (Rt)
open Out (Rt)
section
variable {X : Cy} {e o a b c : Expr} {r : Env2} {G : GD} {pos p0 apos cpos : Pos} {α : Type}
def Grow (G G' : GD) : Prop := ∀ b, G b ≠ none → G' b = G b
theorem Grow.refl (G : GD) : Grow G G := fun _ _ => rfl
theorem Grow.trans {G G1 G2 : GD} (h : Grow G G1) (k : Grow G1 G2) : Grow G G2 := fun b hb => (k b (by rw [h b hb]; exact hb)).trans (h b hb)
/-- an item of a list of several things: None, a tuple, a list that is not in Gb -/
def TolI (Gb : GD) (N : Nat) (d : D) (G : GD) : Prop := d = .non ∨ (∃ ts, d = .tup ts) ∨ ∃ a xs, d = .adr a ∧ Gb a = none ∧ G a = some (.lst xs) ∧ xs.length ≤ N
theorem TolI.mono {Gb G G' : GD} {N : Nat} {d : D} (h : TolI Gb N d G) (k : Grow G G') : TolI Gb N d G' := by
  rcases h with h | h | ⟨a, xs, h1, h2, h3, h4⟩
  · exact .inl h
  · exact .inr (.inl h)
  · exact .inr (.inr ⟨a, xs, h1, h2, (k a (by rw [h3]; exact fun z => nomatch z)).trans h3, h4⟩)
theorem TolI.base {Gb G1 G : GD} {N : Nat} {d : D} (h : TolI G1 N d G) (k : Grow Gb G1) : TolI Gb N d G := by
  rcases h with h | h | ⟨a, xs, h1, h2, h3, h4⟩
  · exact .inl h
  · exact .inr (.inl h)
  · refine .inr (.inr ⟨a, xs, h1, ?_, h3, h4⟩)
    cases e : Gb a with
    | none => rfl
    | some x => have := k a (by rw [e]; exact fun z => nomatch z); rw [h2, e] at this; cases this
def TolL (Gb : GD) (N : Nat) : List D → GD → Prop
  | [], _ => True
  | d :: ds, G => TolI Gb N d G ∧ TolL Gb N ds G
theorem TolL.at {Gb : GD} {N : Nat} : ∀ {ds : List D} {G : GD} {k : Nat} {d : D}, TolL Gb N ds G → ds[k]? = some d → TolI Gb N d G
  | [], _, _, _, _, h => nomatch h
  | _ :: _, _, 0, _, h, e => by cases e; exact h.1
  | _ :: ds, _, k + 1, _, h, e => TolL.at (ds := ds) h.2 e
end
open L2 (ixN)
namespace Out
variable {α β σ ρ : Type}
/-- it ends with a value of which Q holds -/
def yes (m : Out α) (Q : α → Prop) : Prop := ∃ a, m = .ok a ∧ Q a
theorem yes_ok {a : α} {Q : α → Prop} (h : Q a) : (Out.ok a).yes Q := ⟨a, rfl, h⟩
theorem yes.mono {m : Out α} {Q Q' : α → Prop} (h : m.yes Q) (k : ∀ a, Q a → Q' a) : m.yes Q' := by
  obtain ⟨a, h1, h2⟩ := h; exact ⟨a, h1, k a h2⟩
theorem yes_bind {m : Out α} {f : α → Out β} {Q : β → Prop} {R : α → Prop} (h : m.yes R) (k : ∀ a, R a → (f a).yes Q) : (m.bind f).yes Q := by
  obtain ⟨a, rfl, h2⟩ := h; exact k a h2
theorem yes.eq {m : Out α} {a : α} (h : m.yes (· = a)) : m = .ok a := by obtain ⟨b, h1, h2⟩ := h; rw [h1, h2]
theorem bind_guard {p : Prop} [Decidable p] (h : p) {f : Unit → Out β} : (guard p).bind f = f () := by rw [guard_pos h]; rfl
theorem bind_get {o : Option α} {a : α} (h : o = some a) {f : α → Out β} : (get o).bind f = f a := by rw [h]; rfl
theorem yes_guard {p : Prop} [Decidable p] (h : p) {f : Unit → Out β} {Q : β → Prop} (k : (f ()).yes Q) : ((guard p).bind f).yes Q := by rw [bind_guard h]; exact k
theorem yes_get {o : Option α} {a : α} (h : o = some a) {f : α → Out β} {Q : β → Prop} (k : (f a).yes Q) : ((get o).bind f).yes Q := by rw [bind_get h]; exact k
theorem yes_let {a : α} {f : α → Out β} {Q : β → Prop} (k : (f a).yes Q) : ((Out.ok a).bind f).yes Q := k
theorem yes_ifF {c : Bool} {a b : Out α} {Q : α → Prop} (h : c = false) (k : b.yes Q) : (if c = true then a else b).yes Q := by rw [if_neg (by rw [h]; exact Bool.false_ne_true)]; exact k
theorem yes_if {c : Bool} {a b : Out α} {Q : α → Prop} (h : c = true → a.yes Q) (k : c = false → b.yes Q) : (if c = true then a else b).yes Q := by
  cases c with
  | true => exact h rfl
  | false => exact k rfl
theorem bind_assoc {γ : Type} {m : Out α} {f : α → Out β} {g : β → Out γ} : (m.bind f).bind g = m.bind fun a => (f a).bind g := by cases m <;> rfl
/-- loops: an invariant over what was done so far -/
theorem fold_yes {f : σ → α → Out σ} (I : List α → σ → Prop) : ∀ (xs : List α) (s0 : σ), I [] s0 → (∀ pre x post s, xs = pre ++ x :: post → I pre s → (f s x).yes (I (pre ++ [x]))) → (fold f xs s0).yes (I xs) := by
  have key : ∀ (xs : List α) (pre : List α) (s : σ), I pre s → (∀ p x post s, pre ++ xs = p ++ x :: post → pre.length ≤ p.length → I p s → (f s x).yes (I (p ++ [x]))) → (fold f xs s).yes (I (pre ++ xs)) := by
    intro xs
    induction xs with
    | nil => intro pre s h0 _; rw [List.append_nil]; exact yes_ok h0
    | cons x xs ih =>
      intro pre s h0 hs
      refine yes_bind (hs pre x xs s rfl (Nat.le_refl _) h0) fun s' h' => ?_
      have := ih (pre ++ [x]) s' h' fun p y post s e hl hI => hs p y post s (by rw [← e, List.append_assoc]; rfl) (by rw [List.length_append] at hl; exact Nat.le_trans (Nat.le_add_right _ _) hl) hI
      rw [List.append_assoc] at this
      exact this
  intro xs s0 h0 hs
  exact key xs [] s0 h0 fun p x post s e _ hI => hs p x post s e hI
theorem fold_nil {f : σ → α → Out σ} {s : σ} : fold f [] s = .ok s := rfl
theorem fold_cons {f : σ → α → Out σ} {s : σ} {x : α} {xs : List α} : fold f (x :: xs) s = (f s x).bind (fold f xs) := rfl
/-- a loop that is a plain one -/
theorem fold_plain {f : σ → α → Out σ} {g : σ → α → σ} : ∀ (xs : List α) (s : σ), (∀ s x, x ∈ xs → f s x = .ok (g s x)) → fold f xs s = .ok (xs.foldl g s)
  | [], s, _ => rfl
  | x :: xs, s, h => by
    rw [fold_cons, h s x List.mem_cons_self, bind_ok, fold_plain xs _ fun s y hy => h s y (List.mem_cons_of_mem _ hy)]; rfl
/-- comprehensions -/
theorem compS_unit {f : Unit → α → Out (Option β × Unit)} {o : α → Option β} : ∀ (xs : List α) (acc : List β), (∀ x, x ∈ xs → f () x = .ok (o x, ())) → compS f xs acc () = .ok (acc ++ xs.filterMap o, ())
  | [], acc, _ => by unfold compS; simp
  | x :: xs, acc, h => by
    unfold compS
    rw [h x List.mem_cons_self, bind_ok]
    rw [compS_unit xs _ fun y hy => h y (List.mem_cons_of_mem _ hy)]
    cases hx : o x with
    | none => simp [hx]
    | some y => simp [hx]
end Out
open Out (Rt)
section
variable {α β : Type}
theorem perm_of_mem [DecidableEq α] {xs ys : List α} (hx : xs.Nodup) (hy : ys.Nodup) (h : ∀ a, a ∈ xs ↔ a ∈ ys) : xs.Perm ys := by
  rw [List.perm_iff_count]
  intro a
  by_cases ha : a ∈ xs
  · have h1 := List.nodup_iff_count.mp hx a
    have h2 := List.nodup_iff_count.mp hy a
    have h3 := List.count_pos_iff.mpr ha
    have h4 := List.count_pos_iff.mpr ((h a).mp ha)
    omega
  · rw [List.count_eq_zero_of_not_mem ha, List.count_eq_zero_of_not_mem fun z => ha ((h a).mpr z)]
theorem nodup_of_lt {xs : List Int} (h : xs.Pairwise (· < ·)) : xs.Nodup := h.imp fun h => by omega
theorem le_of_lt {xs : List Int} (h : xs.Pairwise (· < ·)) : xs.Pairwise (· ≤ ·) := h.imp fun h => by omega
theorem sorted_ext {xs ys : List Int} (hx : xs.Pairwise (· < ·)) (hy : ys.Pairwise (· < ·)) (h : ∀ a, a ∈ xs ↔ a ∈ ys) : xs = ys :=
  sorted_unique (perm_of_mem (nodup_of_lt hx) (nodup_of_lt hy) h) (le_of_lt hx) (le_of_lt hy)
theorem mem_isort {xs : List Int} {a : Int} : a ∈ isort xs ↔ a ∈ xs := (isort_perm xs).mem_iff
theorem isort_lt {xs : List Int} (h : xs.Nodup) : (isort xs).Pairwise (· < ·) := by
  have h1 := isort_sorted xs
  have h2 : (isort xs).Nodup := (isort_perm xs).nodup_iff.mpr h
  have := h1.and h2
  exact this.imp fun ⟨a, b⟩ => by omega
theorem mem_rgI {a b x : Int} : x ∈ rgI a b ↔ a ≤ x ∧ x < b := by
  unfold rgI
  rw [List.mem_map]
  constructor
  · rintro ⟨i, hi, rfl⟩; rw [List.mem_range] at hi; omega
  · rintro ⟨h1, h2⟩; exact ⟨(x - a).toNat, by rw [List.mem_range]; omega, by omega⟩
theorem rgI_lt (a b : Int) : (rgI a b).Pairwise (· < ·) := by
  unfold rgI
  rw [List.pairwise_map]
  exact List.pairwise_lt_range.imp fun h => by omega
theorem rgI_nil {a b : Int} (h : b ≤ a) : rgI a b = [] := by
  unfold rgI; rw [show (b - a).toNat = 0 by omega]; rfl
theorem rgI_cons {a b : Int} (h : a < b) : rgI a b = a :: rgI (a + 1) b := by
  refine sorted_ext (rgI_lt _ _) ?_ fun x => ?_
  · rw [List.pairwise_cons]; exact ⟨fun x hx => by rw [mem_rgI] at hx; omega, rgI_lt _ _⟩
  · rw [List.mem_cons, mem_rgI, mem_rgI]; omega
theorem pix_nat {xs : List α} {i : Nat} {x : α} (h : xs[i]? = some x) : pix xs (i : Int) = some x := by
  have hi := (List.getElem?_eq_some_iff.mp h).1
  unfold pix ixN
  rw [if_pos (by omega), if_pos (by omega)]
  simpa using h
theorem pix_pos {xs : List α} {i : Int} (h0 : 0 ≤ i) (h1 : i < xs.length) : pix xs i = xs[i.toNat]? := by
  unfold pix ixN
  rw [if_pos h0, if_pos h1]; rfl
theorem pix_some {xs : List α} {i : Int} (h0 : 0 ≤ i) (h1 : i < xs.length) : ∃ x, pix xs i = some x ∧ x ∈ xs := by
  rw [pix_pos h0 h1]
  have : i.toNat < xs.length := by omega
  exact ⟨xs[i.toNat], List.getElem?_eq_getElem this, List.getElem_mem _⟩
theorem pix_last {xs : List α} {x : α} (h : xs.getLast? = some x) : pix xs (-1) = some x := by
  have hne : xs ≠ [] := by intro e; rw [e] at h; cases h
  have hl : 0 < xs.length := List.length_pos_iff.mpr hne
  unfold pix ixN
  rw [if_neg (by omega), if_pos (by omega)]
  rw [List.getLast?_eq_getElem?] at h
  rw [show ((-1 : Int) + (xs.length : Int)).toNat = xs.length - 1 by omega]
  exact h
theorem penumF_get : ∀ (xs : List α) (k i : Nat), (penumF k xs)[i]? = (xs[i]?).map fun x => (((k + i : Nat) : Int), x)
  | [], k, i => by unfold penumF; simp
  | x :: xs, k, 0 => by unfold penumF; simp
  | x :: xs, k, i + 1 => by
    unfold penumF
    rw [List.getElem?_cons_succ, penumF_get xs (k + 1) i, List.getElem?_cons_succ]
    rw [show k + 1 + i = k + (i + 1) by omega]
theorem penum_get (xs : List α) (i : Nat) : (penum xs)[i]? = (xs[i]?).map fun x => ((i : Int), x) := by
  unfold penum; rw [penumF_get, Nat.zero_add]
/-- a walk over an enumerated list: what stands at a place -/
theorem penum_split {xs : List α} {pre post : List (Int × α)} {p : Int × α} (h : penum xs = pre ++ p :: post) : ∃ i : Nat, i = pre.length ∧ p.1 = (i : Int) ∧ xs[i]? = some p.2 ∧ pre = penum (xs.take i) := by
  have hg : (penum xs)[pre.length]? = some p := by rw [h]; simp
  rw [penum_get] at hg
  cases hx : xs[pre.length]? with
  | none => rw [hx] at hg; cases hg
  | some x =>
    rw [hx] at hg
    have hp : ((pre.length : Int), x) = p := by simpa using hg
    subst hp
    refine ⟨pre.length, rfl, rfl, hx, ?_⟩
    have hlt := (List.getElem?_eq_some_iff.mp hx).1
    apply List.ext_getElem?
    intro i
    rw [penum_get]
    by_cases hi : i < pre.length
    · have e1 : (penum xs)[i]? = pre[i]? := by rw [h, List.getElem?_append_left hi]
      rw [← e1, penum_get, List.getElem?_take_of_lt hi]
    · rw [List.getElem?_eq_none (by omega), List.getElem?_eq_none (by rw [List.length_take]; omega)]; rfl
end
section
variable {κ ν : Type} [DecidableEq κ]
abbrev keys (kvs : List (κ × ν)) : List κ := kvs.map (·.1)
theorem dhas_iff {kvs : List (κ × ν)} {k : κ} : dhas kvs k = true ↔ k ∈ keys kvs := by
  unfold dhas keys
  rw [List.any_eq_true, List.mem_map]
  constructor
  · rintro ⟨p, h1, h2⟩; exact ⟨p, h1, by simpa using h2⟩
  · rintro ⟨p, h1, h2⟩; exact ⟨p, h1, by simpa using h2⟩
theorem dhas_false {kvs : List (κ × ν)} {k : κ} : dhas kvs k = false ↔ k ∉ keys kvs := by
  rw [← dhas_iff]; cases dhas kvs k <;> simp
theorem dget_none {kvs : List (κ × ν)} {k : κ} : dget kvs k = none ↔ k ∉ keys kvs := by
  unfold dget keys
  rw [Option.map_eq_none_iff, List.find?_eq_none, List.mem_map]
  constructor
  · rintro h ⟨p, h1, h2⟩; exact h p h1 (by simpa using h2)
  · intro h p h1 h2; exact h ⟨p, h1, by simpa using h2⟩
theorem dget_mem {kvs : List (κ × ν)} {k : κ} {v : ν} (h : dget kvs k = some v) : (k, v) ∈ kvs := by
  unfold dget at h
  rw [Option.map_eq_some_iff] at h
  obtain ⟨p, h1, h2⟩ := h
  have := List.find?_some h1
  have hk : p.1 = k := by simpa using this
  rw [← hk, ← h2]
  exact List.mem_of_find?_eq_some h1
theorem dget_some {kvs : List (κ × ν)} {k : κ} (h : k ∈ keys kvs) : ∃ v, dget kvs k = some v := by
  cases e : dget kvs k with
  | none => exact absurd h (dget_none.mp e)
  | some v => exact ⟨v, rfl⟩
theorem dget_of_mem {kvs : List (κ × ν)} {k : κ} {v : ν} (hn : (keys kvs).Nodup) (h : (k, v) ∈ kvs) : dget kvs k = some v := by
  induction kvs with
  | nil => cases h
  | cons p r ih =>
    unfold dget
    rw [List.find?_cons]
    by_cases e : p.1 = k
    · rw [show decide (p.1 = k) = true by simp [e]]
      rcases List.mem_cons.mp h with h | h
      · rw [← h]; rfl
      · exfalso
        have := (List.nodup_cons.mp hn).1
        exact this (List.mem_map.mpr ⟨(k, v), h, e.symm⟩)
    · rw [show decide (p.1 = k) = false by simp [e]]
      rcases List.mem_cons.mp h with h | h
      · rw [← h] at e; exact absurd rfl e
      · exact ih (List.nodup_cons.mp hn).2 h
theorem dput_eq (kvs : List (κ × ν)) (k : κ) (v : ν) : dput kvs k v = if dhas kvs k = true then kvs.map (fun p => if p.1 = k then (p.1, v) else p) else kvs ++ [(k, v)] := rfl
theorem keys_dput (kvs : List (κ × ν)) (k : κ) (v : ν) : keys (dput kvs k v) = if k ∈ keys kvs then keys kvs else keys kvs ++ [k] := by
  rw [dput_eq]; unfold keys
  by_cases h : k ∈ keys kvs
  · rw [if_pos (show dhas kvs k = true from dhas_iff.mpr h), if_pos h, List.map_map]
    apply List.map_congr_left
    intro p _
    by_cases e : p.1 = k
    · simp [e]
    · simp [e]
  · rw [if_neg (show ¬ dhas kvs k = true from fun z => h (dhas_iff.mp z)), if_neg h, List.map_append]; rfl
theorem mem_keys_dput {kvs : List (κ × ν)} {k x : κ} {v : ν} : x ∈ keys (dput kvs k v) ↔ x = k ∨ x ∈ keys kvs := by
  rw [keys_dput]
  split
  · constructor
    · exact .inr
    · rintro (rfl | h)
      · assumption
      · exact h
  · rw [List.mem_append, List.mem_singleton, or_comm]
theorem dput_nodup {kvs : List (κ × ν)} {k : κ} {v : ν} (h : (keys kvs).Nodup) : (keys (dput kvs k v)).Nodup := by
  rw [keys_dput]
  split
  · exact h
  · rename_i hk
    rw [List.nodup_append]
    exact ⟨h, by simp, fun a ha b hb => by rw [List.mem_singleton] at hb; subst hb; exact fun e => hk (e ▸ ha)⟩
theorem dget_dput (kvs : List (κ × ν)) (k x : κ) (v : ν) : dget (dput kvs k v) x = if x = k then some v else dget kvs x := by
  rw [dput_eq]
  by_cases h : dhas kvs k = true
  · rw [if_pos h]
    have hk := dhas_iff.mp h
    clear h
    induction kvs with
    | nil => cases hk
    | cons p r ih =>
      unfold dget
      rw [List.map_cons, List.find?_cons, List.find?_cons]
      by_cases e : p.1 = k
      · rw [if_pos e]
        by_cases hx : x = k
        · subst hx; simp [e]
        · rw [show decide ((p.1, v).1 = x) = false by simp; intro z; exact hx (z.symm.trans e)]
          rw [if_neg hx]
          by_cases hr : k ∈ keys r
          · have := ih hr; rw [if_neg hx] at this; exact this
          · have : r.map (fun p => if p.1 = k then (p.1, v) else p) = r := by
              rw [show r = r.map id by simp, List.map_map]
              apply List.map_congr_left
              intro q hq
              have : q.1 ≠ k := fun z => hr (List.mem_map.mpr ⟨q, hq, z⟩)
              simp [this]
            rw [this]
      · rw [if_neg e]
        have hr : k ∈ keys r := by
          rcases List.mem_cons.mp hk with z | z
          · exact absurd z.symm e
          · exact z
        by_cases hx : p.1 = x
        · rw [show decide (p.1 = x) = true by simp [hx]]
          rw [if_neg (fun z => e (hx.trans z))]
        · rw [show decide (p.1 = x) = false by simp [hx]]
          exact ih hr
  · rw [if_neg h]
    have hk : k ∉ keys kvs := fun z => h (dhas_iff.mpr z)
    unfold dget
    rw [List.find?_append]
    by_cases hx : x = k
    · subst hx
      have := dget_none.mpr hk
      unfold dget at this
      rw [Option.map_eq_none_iff] at this
      rw [this, if_pos rfl]; simp
    · rw [if_neg hx]
      have : List.find? (fun p : κ × ν => decide (p.1 = x)) [(k, v)] = none := by
        rw [List.find?_eq_none]; intro p hp; rw [List.mem_singleton] at hp; subst hp; simp; exact fun z => hx z.symm
      rw [this, Option.or_none]
theorem dput_new {kvs : List (κ × ν)} {k : κ} {v : ν} (h : k ∉ keys kvs) : dput kvs k v = kvs ++ [(k, v)] := by
  rw [dput_eq, if_neg (show ¬ dhas kvs k = true from fun z => h (dhas_iff.mp z))]
theorem mem_keys_foldl (ps : List (κ × ν)) : ∀ (acc : List (κ × ν)) (x : κ), x ∈ keys (ps.foldl (fun acc p => dput acc p.1 p.2) acc) ↔ x ∈ keys acc ∨ x ∈ keys ps := by
  induction ps with
  | nil => intro acc x; simp
  | cons p r ih =>
    intro acc x
    rw [List.foldl_cons, ih, mem_keys_dput]
    show _ ↔ _ ∨ x ∈ p.1 :: keys r
    rw [List.mem_cons]
    constructor
    · rintro ((h | h) | h)
      · exact .inr (.inl h)
      · exact .inl h
      · exact .inr (.inr h)
    · rintro (h | h | h)
      · exact .inl (.inr h)
      · exact .inl (.inl h)
      · exact .inr h
theorem mem_keys_dmk {ps : List (κ × ν)} {x : κ} : x ∈ keys (dmk ps) ↔ x ∈ keys ps := by
  unfold dmk; rw [mem_keys_foldl]; simp
theorem foldl_nodup (ps : List (κ × ν)) : ∀ acc : List (κ × ν), (keys acc).Nodup → (keys (ps.foldl (fun acc p => dput acc p.1 p.2) acc)).Nodup := by
  induction ps with
  | nil => intro acc h; exact h
  | cons p r ih => intro acc h; exact ih _ (dput_nodup h)
theorem dmk_nodup (ps : List (κ × ν)) : (keys (dmk ps)).Nodup := foldl_nodup ps [] List.nodup_nil
theorem dmk_of_nodup {ps : List (κ × ν)} (h : (keys ps).Nodup) : dmk ps = ps := by
  have key : ∀ (ps acc : List (κ × ν)), (keys (acc ++ ps)).Nodup → ps.foldl (fun acc p => dput acc p.1 p.2) acc = acc ++ ps := by
    intro ps
    induction ps with
    | nil => intro acc _; simp
    | cons p r ih =>
      intro acc h
      rw [List.foldl_cons]
      have hp : p.1 ∉ keys acc := by
        intro z
        unfold keys at h z
        rw [List.map_append, List.nodup_append] at h
        exact h.2.2 _ z p.1 (by simp) rfl
      rw [dput_new hp, ih _ (by rw [List.append_assoc]; exact h), List.append_assoc]; rfl
  exact key ps [] h
end
/-- x can be come to from b by n steps -/
def Wkn (nbr : Int → List Int) (b : Int) : Nat → Int → Prop
  | 0, x => x = b
  | n + 1, x => ∃ y, Wkn nbr b n y ∧ x ∈ nbr y
def Dst (nbr : Int → List Int) (b : Int) (n : Nat) (x : Int) : Prop := Wkn nbr b n x ∧ ∀ m, m < n → ¬ Wkn nbr b m x
section
variable {nbr : Int → List Int} {b : Int}
theorem Dst.uniq {n m : Nat} {x : Int} (h : Dst nbr b n x) (k : Dst nbr b m x) : n = m := by
  rcases Nat.lt_trichotomy n m with z | z | z
  · exact absurd h.1 (k.2 n z)
  · exact z
  · exact absurd k.1 (h.2 m z)
theorem Wkn.dst {n : Nat} {x : Int} (h : Wkn nbr b n x) : ∃ m, m ≤ n ∧ Dst nbr b m x := by
  induction n using Nat.strongRecOn with
  | ind n ih =>
    by_cases z : ∃ m, m < n ∧ Wkn nbr b m x
    · obtain ⟨m, h1, h2⟩ := z
      obtain ⟨k, h3, h4⟩ := ih m h1 h2
      exact ⟨k, by omega, h4⟩
    · exact ⟨n, Nat.le_refl _, h, fun m hm hw => z ⟨m, hm, hw⟩⟩
/-- the places found up to level k -/
structure BInv (nbr : Int → List Int) (b : Int) (k : Nat) (found : List (Int × Int)) (level : List Int) : Prop where
  nd : (keys found).Nodup
  has : ∀ x, x ∈ keys found ↔ ∃ n, n ≤ k ∧ Wkn nbr b n x
  val : ∀ x d, dget found x = some d → ∃ n : Nat, d = (n : Int) ∧ Dst nbr b n x
  lv : ∀ x, x ∈ level ↔ Dst nbr b k x
  lnd : level.Nodup
theorem BInv.at {k : Nat} {found : List (Int × Int)} {level : List Int} (h : BInv nbr b k found level) {x : Int} {n : Nat} (hd : Dst nbr b n x) (hn : n ≤ k) : dget found x = some (n : Int) := by
  obtain ⟨v, hv⟩ := dget_some ((h.has x).mpr ⟨n, hn, hd.1⟩)
  obtain ⟨m, h1, h2⟩ := h.val x v hv
  rw [hv, h1, h2.uniq hd]
theorem nodup_len : ∀ {U xs : List Int}, xs.Nodup → (∀ x, x ∈ xs → x ∈ U) → xs.length ≤ U.length
  | U, [], _, _ => Nat.zero_le _
  | U, x :: xs, h, hs => by
    have hx := hs x List.mem_cons_self
    have h1 := List.nodup_cons.mp h
    have := nodup_len (U := U.erase x) h1.2 fun y hy => by
      have hne : y ≠ x := fun e => h1.1 (e ▸ hy)
      exact (List.mem_erase_of_ne hne).mpr (hs y (List.mem_cons_of_mem _ hy))
    rw [List.length_erase_of_mem hx] at this
    have hp := List.length_pos_of_mem hx
    rw [List.length_cons]; omega
end
theorem bezout : ∀ (a b : Nat), ∃ x y : Int, (a : Int) * x + (b : Int) * y = (Nat.gcd a b : Nat) := by
  intro a
  induction a using Nat.strongRecOn with
  | ind a ih =>
    intro b
    rcases Nat.eq_zero_or_pos a with h | h
    · subst h; exact ⟨0, 1, by simp⟩
    · obtain ⟨x, y, e⟩ := ih (b % a) (Nat.mod_lt _ h) a
      rw [Nat.gcd_rec a b, ← e]
      refine ⟨y - (b / a : Nat) * x, x, ?_⟩
      have hd : (b : Int) = (a : Int) * ((b / a : Nat) : Int) + ((b % a : Nat) : Int) := by
        have := Nat.div_add_mod b a
        have h2 : ((a * (b / a) + b % a : Nat) : Int) = (b : Int) := by rw [this]
        rw [← h2, Int.natCast_add, Int.natCast_mul]
      rw [hd]
      generalize ((b / a : Nat) : Int) = q
      generalize ((b % a : Nat) : Int) = r
      simp only [Int.mul_sub, Int.add_mul, Int.mul_assoc]
      have : (a : Int) * (q * x) = (a : Int) * q * x := by rw [Int.mul_assoc]
      omega
inductive Rch (R : Int → Int → Prop) : Int → Int → Prop
  | refl (x : Int) : Rch R x x
  | step {x y z : Int} : Rch R x y → R y z → Rch R x z
theorem Rch.trans {R : Int → Int → Prop} {x y z : Int} (h : Rch R x y) (k : Rch R y z) : Rch R x z := by
  induction k with
  | refl => exact h
  | step _ r ih => exact ih.step r
theorem Rch.one {R : Int → Int → Prop} {x y : Int} (h : R x y) : Rch R x y := (Rch.refl x).step h
theorem Rch.symm {R : Int → Int → Prop} (hs : ∀ a b, R a b → R b a) {x y : Int} (h : Rch R x y) : Rch R y x := by
  induction h with
  | refl => exact .refl _
  | step _ r ih => exact (Rch.one (hs _ _ r)).trans ih
/-- two steps on a bench -/
def RA (e a b : Int) (x y : Int) : Prop := 0 ≤ x ∧ x ≤ e ∧ 0 ≤ y ∧ y ≤ e ∧ (y = x + a ∨ y = x - a ∨ y = x + b ∨ y = x - b)
theorem RA.symm {e a b x y : Int} (h : RA e a b x y) : RA e a b y x := by unfold RA at *; omega
theorem cancel_dvd {n p x : Int} (hw : ∃ w k : Int, p * w = 1 + n * k) (h : n ∣ x * p) : n ∣ x := by
  obtain ⟨w, k, e⟩ := hw
  obtain ⟨c, hc⟩ := h
  refine ⟨c * w - k * x, ?_⟩
  have h1 : x * (p * w) = x + x * (n * k) := by rw [e, Int.mul_add, Int.mul_one]
  have h2 : x * (p * w) = n * (c * w) := by rw [← Int.mul_assoc, hc, Int.mul_assoc]
  rw [Int.mul_sub, ← h2, h1]
  have : x * (n * k) = n * (k * x) := by rw [Int.mul_left_comm, Int.mul_comm x k]
  omega
theorem small_dvd {n x : Int} (h : n ∣ x) (h1 : 0 < x) (h2 : x < n) : False := by
  have := Int.le_of_dvd h1 h; omega
section
variable {nbr : Int → List Int} {b : Int}
theorem Wkn.add {n m : Nat} {x y : Int} (h : Wkn nbr b n y) (k : Wkn nbr y m x) : Wkn nbr b (n + m) x := by
  induction m generalizing x with
  | zero => cases (show x = y from k); exact h
  | succ m ih => obtain ⟨z, h1, h2⟩ := k; exact ⟨z, ih h1, h2⟩
theorem Wkn.one {x : Int} (h : x ∈ nbr b) : Wkn nbr b 1 x := ⟨b, rfl, h⟩
theorem Wkn.inv {P : Int → Prop} (hs : ∀ x y, P x → y ∈ nbr x → P y) (hb : P b) : ∀ {n : Nat} {x : Int}, Wkn nbr b n x → P x
  | 0, x, h => by cases (show x = b from h); exact hb
  | n + 1, x, ⟨y, h1, h2⟩ => hs y x (Wkn.inv hs hb h1) h2
theorem Wkn.symm {P : Int → Prop} (hs : ∀ x y, P x → y ∈ nbr x → P y ∧ x ∈ nbr y) (hb : P b) : ∀ {n : Nat} {x : Int}, Wkn nbr b n x → Wkn nbr x n b
  | 0, x, h => by cases (show x = b from h); exact rfl
  | n + 1, x, ⟨y, h1, h2⟩ => by
    have hy : P y := Wkn.inv (fun x y a c => (hs x y a c).1) hb h1
    have := (Wkn.one (hs y x hy h2).2).add (Wkn.symm hs hb h1)
    rw [Nat.add_comm] at this; exact this
theorem Dst.symm {P : Int → Prop} (hs : ∀ x y, P x → y ∈ nbr x → P y ∧ x ∈ nbr y) (hb : P b) {n : Nat} {x : Int} (h : Dst nbr b n x) : Dst nbr x n b := by
  have hx : P x := Wkn.inv (fun x y a c => (hs x y a c).1) hb h.1
  exact ⟨h.1.symm hs hb, fun m hm hw => h.2 m hm (hw.symm hs hx)⟩
end
/-- the fewest times that a step is done: there is one below size, and no other -/
theorem times_uniq {m s g size t u : Int} (hm : 0 < m) (hg : m = g * size) (hgs : ∃ k, s = g * k) (hinv : ∃ w c : Int, (s / g) * w = 1 + size * c) (hg0 : 0 < g) (ht0 : 0 ≤ t) (ht : t < size) (hu0 : 0 ≤ u) (hu : u < size) (h : m ∣ t * s - u * s) : t = u := by
  obtain ⟨k, hk⟩ := hgs
  obtain ⟨w, c, hw⟩ := hinv
  have hdk : s / g = k := by rw [hk]; exact Int.mul_ediv_cancel_left _ (by omega)
  rw [hdk] at hw
  obtain ⟨q, hq⟩ := h
  have h1 : (t - u) * k = size * q := by
    have : g * ((t - u) * k) = g * (size * q) := by
      rw [← Int.mul_assoc g size q, ← hg, ← hq, hk, Int.mul_left_comm, Int.sub_mul]
    exact Int.eq_of_mul_eq_mul_left (by omega) this
  have h2 : size ∣ (t - u) := cancel_dvd ⟨w, c, hw⟩ ⟨q, h1⟩
  rcases Int.lt_trichotomy t u with z | z | z
  · exfalso
    have : size ∣ (u - t) := by rw [show u - t = -(t - u) by omega]; exact Int.dvd_neg.mpr h2
    exact small_dvd this (by omega) (by omega)
  · exact z
  · exact (small_dvd h2 (by omega) (by omega)).elim
section
variable {α β γ : Type} {en f : α → D} {g : β → D} {n : Nat}
theorem ltC_irrefl (a : α) : ltC en a a = false := (PyProof.Rows.listOrd PyProof.Rows.itemOrd).irrefl _
theorem ltC_trans {a b c : α} (h1 : ltC en a b = true) (h2 : ltC en b c = true) : ltC en a c = true := (PyProof.Rows.listOrd PyProof.Rows.itemOrd).trans _ _ _ h1 h2
theorem ltC_asymm {a b : α} (h : ltC en a b = true) : ltC en b a = false := by
  cases e : ltC en b a with
  | false => rfl
  | true => have := ltC_trans h e; rw [ltC_irrefl] at this; cases this
theorem ltC_int (a b : Int) : ltC eI a b = decide (a < b) := PySem.W.dataLt_int a b
theorem ltC_str (a b : S) : ltC eZ a b = decide (a.1.cps.toList < b.1.cps.toList) := PySem.W.dataLt_str a.1 b.1
theorem eqv_iff (h : EqC en n) (a b : α) : PyData.eqv (toP (en a)) (toP (en b)) = true ↔ a = b := h.eq a b
theorem ltC_pair [DecidableEq α] [DecidableEq β] (hf : OrC f n) (hg : OrC g n) (a b : α × β) : ltC (eP f g) a b = if a.1 = b.1 then ltC g a.2 b.2 else ltC f a.1 b.1 := by
  show PySem.W.dataLt (.tuple [toP (f a.1), toP (g a.2)]) (.tuple [toP (f b.1), toP (g b.2)]) = _
  rw [PySem.W.dataLt_pair (hf.al _ _) (hg.al _ _)]
  by_cases e : a.1 = b.1
  · rw [if_pos ((eqv_iff hf.eqc _ _).mpr e), if_pos e]
    by_cases e2 : a.2 = b.2
    · rw [if_pos ((eqv_iff hg.eqc _ _).mpr e2), e2, ltC_irrefl]
    · rw [if_neg (fun z => e2 ((eqv_iff hg.eqc _ _).mp z))]; rfl
  · rw [if_neg (fun z => e ((eqv_iff hf.eqc _ _).mp z)), if_neg e]; rfl
theorem ltC_lst_cons [DecidableEq α] (hf : OrC f n) (a b : α) (as bs : List α) : ltC (eL f) (a :: as) (b :: bs) = if a = b then ltC (eL f) as bs else ltC f a b := by
  show PySem.W.dataLt (.list (toP (f a) :: toPs (as.map f))) (.list (toP (f b) :: toPs (bs.map f))) = _
  rw [PySem.W.dataLt_list, PySem.W.dataLt_cons (hf.al _ _)]
  by_cases e : a = b
  · rw [if_pos ((eqv_iff hf.eqc _ _).mpr e), if_pos e]
    show _ = PySem.W.dataLt (.list (toPs (as.map f))) (.list (toPs (bs.map f)))
    rw [PySem.W.dataLt_list]
  · rw [if_neg (fun z => e ((eqv_iff hf.eqc _ _).mp z)), if_neg e]; rfl
/-- the order of layings -/
theorem ltC_SI (a b : S × Int) : ltC (eP eZ eI) a b = RBS.lexS (gP a) (gP b) := by
  rw [ltC_pair orc_str orc_int, ltC_int, ltC_str]
  unfold RBS.lexS gP
  by_cases e : a.1 = b.1
  · rw [if_pos e, if_pos (by rw [e])]
  · rw [if_neg e, if_neg (fun z => e (Subtype.ext z))]
theorem leP_leC (a b : S × Int) : leP a b = leC (eP eZ eI) a b := by unfold leP leC; rw [ltC_SI]
theorem ltC_SI_total {a b : S × Int} (h : a ≠ b) : ltC (eP eZ eI) a b = true ∨ ltC (eP eZ eI) b a = true := by
  cases e1 : ltC (eP eZ eI) a b with
  | true => exact .inl rfl
  | false =>
    cases e2 : ltC (eP eZ eI) b a with
    | true => exact .inr rfl
    | false =>
      rw [ltC_SI] at e1 e2
      exact absurd (gP_inj (RBS.lexS_anti e2 e1)) h
theorem psort_lt {xs : List (S × Int)} (h : xs.Nodup) : (psort xs).Pairwise fun a b => ltC (eP eZ eI) a b = true := by
  have h1 := psort_sorted xs
  have h2 : (psort xs).Nodup := (psort_perm xs).nodup_iff.mpr h
  exact (h1.and h2).imp fun {a b} ⟨p, q⟩ => by
    rcases ltC_SI_total q with z | z
    · exact z
    · rw [leP_leC] at p
      unfold leC at p
      rw [z] at p; cases p
end
open Out (Rt)
open Out (Rt)
open Out (Rt)
def topS (i : Nat) : Stmt := PySem.Challenge.pw_rulerbits_k66_whole_rows_and_their_numbe.main.body.getD i (.Pass ⟨0, 0, 0, 0⟩)
abbrev s_is_number : Stmt := topS 14
theorem sc_is_number : FnScope ["value", "lowest", "highest"] ["value", "lowest", "highest"] (defScope s_is_number) := ⟨rfl, rfl, rfl, by decide +kernel, rfl, by decide +kernel, by decide +kernel⟩
abbrev s_spread_of : Stmt := topS 15
theorem sc_spread_of : FnScope ["marks", "found", "place", "mark", "other"] ["marks"] (defScope s_spread_of) := ⟨rfl, rfl, rfl, by decide +kernel, rfl, by decide +kernel, by decide +kernel⟩
abbrev s_Ruler_init : Stmt := inClass (topS 16) 1
theorem sc_Ruler_init : FnScope ["self", "marks", "error", "index", "mark", "lowest"] ["self", "marks", "error"] (defScope s_Ruler_init) := ⟨rfl, rfl, rfl, by decide +kernel, rfl, by decide +kernel, by decide +kernel⟩
abbrev s_Ruler_marks : Stmt := inClass (topS 16) 2
theorem sc_Ruler_marks : FnScope ["self"] ["self"] (defScope s_Ruler_marks) := ⟨rfl, rfl, rfl, by decide +kernel, rfl, by decide +kernel, by decide +kernel⟩
abbrev s_Ruler_spans : Stmt := inClass (topS 16) 6
theorem sc_Ruler_spans : FnScope ["self", "span"] ["self"] (defScope s_Ruler_spans) := ⟨rfl, rfl, rfl, by decide +kernel, rfl, by decide +kernel, by decide +kernel⟩
abbrev s_validate_places : Stmt := topS 19
theorem sc_validate_places : FnScope ["end", "places", "place"] ["end", "places"] (defScope s_validate_places) := ⟨rfl, rfl, rfl, by decide +kernel, rfl, by decide +kernel, by decide +kernel⟩
abbrev s_next_places : Stmt := topS 20
theorem sc_next_places : FnScope ["steps", "end", "place", "laying"] ["steps", "end", "place"] (defScope s_next_places) := ⟨rfl, rfl, rfl, by decide +kernel, rfl, by decide +kernel, by decide +kernel⟩
abbrev s_count_tables : Stmt := topS 23
theorem sc_count_tables : FnScope ["rack", "end", "goal", "number", "steps", "found", "turn", "later", "place", "many", "laying", "other"] ["rack", "end", "goal", "number"] (defScope s_count_tables) := ⟨rfl, rfl, rfl, by decide +kernel, rfl, by decide +kernel, by decide +kernel⟩
abbrev s_validate_rows : Stmt := topS 24
theorem sc_validate_rows : FnScope ["end", "begin", "goal", "number"] ["end", "begin", "goal", "number"] (defScope s_validate_rows) := ⟨rfl, rfl, rfl, by decide +kernel, rfl, by decide +kernel, by decide +kernel⟩
abbrev s_row_count : Stmt := topS 25
theorem sc_row_count : FnScope ["rack", "end", "begin", "goal", "number"] ["rack", "end", "begin", "goal", "number"] (defScope s_row_count) := ⟨rfl, rfl, rfl, by decide +kernel, rfl, by decide +kernel, by decide +kernel⟩
abbrev s_row_at : Stmt := topS 26
theorem sc_row_at : FnScope ["rack", "end", "begin", "goal", "number", "index", "tables", "steps", "found", "place", "left", "turn", "rows", "laying", "other"] ["rack", "end", "begin", "goal", "number", "index"] (defScope s_row_at) := ⟨rfl, rfl, rfl, by decide +kernel, rfl, by decide +kernel, by decide +kernel⟩
abbrev s_is_name : Stmt := topS 31
theorem sc_is_name : FnScope ["name", "letter"] ["name"] (defScope s_is_name) := ⟨rfl, rfl, rfl, by decide +kernel, rfl, by decide +kernel, by decide +kernel⟩
abbrev s_Rack_init : Stmt := inClass (topS 32) 1
theorem sc_Rack_init : FnScope ["self", "rulers", "place", "name"] ["self", "rulers"] (defScope s_Rack_init) := ⟨rfl, rfl, rfl, by decide +kernel, rfl, by decide +kernel, by decide +kernel⟩
abbrev s_Rack_names : Stmt := inClass (topS 32) 2
theorem sc_Rack_names : FnScope ["self"] ["self"] (defScope s_Rack_names) := ⟨rfl, rfl, rfl, by decide +kernel, rfl, by decide +kernel, by decide +kernel⟩
abbrev s_Rack_steps : Stmt := inClass (topS 32) 3
theorem sc_Rack_steps : FnScope ["self", "found", "name", "ruler", "span"] ["self"] (defScope s_Rack_steps) := ⟨rfl, rfl, rfl, by decide +kernel, rfl, by decide +kernel, by decide +kernel⟩
abbrev s_Rack_getitem : Stmt := inClass (topS 32) 4
theorem sc_Rack_getitem : FnScope ["self", "name"] ["self", "name"] (defScope s_Rack_getitem) := ⟨rfl, rfl, rfl, by decide +kernel, rfl, by decide +kernel, by decide +kernel⟩
abbrev s_law_begun : Stmt := topS 34
theorem sc_law_begun : FnScope ["_law_script", "_law_stirred", "_law_cell"] ["_law_script"] (defScope s_law_begun) := ⟨rfl, rfl, rfl, by decide +kernel, rfl, by decide +kernel, by decide +kernel⟩
abbrev s_law_take : Stmt := topS 35
theorem sc_law_take : FnScope ["_law_box", "_law_many", "_law_figure"] ["_law_box", "_law_many"] (defScope s_law_take) := ⟨rfl, rfl, rfl, by decide +kernel, rfl, by decide +kernel, by decide +kernel⟩
abbrev s_law_alike : Stmt := topS 36
theorem sc_law_alike : FnScope ["_law_found", "_law_due", "_law_k"] ["_law_found", "_law_due"] (defScope s_law_alike) := ⟨rfl, rfl, rfl, by decide +kernel, rfl, by decide +kernel, by decide +kernel⟩
abbrev s_law_marks : Stmt := topS 37
theorem sc_law_marks : FnScope ["_law_box", "_law_most", "_law_length", "_law_left", "_law_found", "_law_turn"] ["_law_box", "_law_most", "_law_length"] (defScope s_law_marks) := ⟨rfl, rfl, rfl, by decide +kernel, rfl, by decide +kernel, by decide +kernel⟩
abbrev s_law_ruler : Stmt := topS 38
theorem sc_law_ruler : FnScope ["_law_box", "_law_most", "_law_length"] ["_law_box", "_law_most", "_law_length"] (defScope s_law_ruler) := ⟨rfl, rfl, rfl, by decide +kernel, rfl, by decide +kernel, by decide +kernel⟩
abbrev s_law_rack : Stmt := topS 39
theorem sc_law_rack : FnScope ["_law_box", "_law_many", "_law_most", "_law_length", "_law_found", "_law_turn", "_law_name"] ["_law_box", "_law_many", "_law_most", "_law_length"] (defScope s_law_rack) := ⟨rfl, rfl, rfl, by decide +kernel, rfl, by decide +kernel, by decide +kernel⟩
abbrev s_law_spans : Stmt := topS 40
theorem sc_law_spans : FnScope ["_law_marks_here", "_law_found", "_law_place", "_law_mark"] ["_law_marks_here"] (defScope s_law_spans) := ⟨rfl, rfl, rfl, by decide +kernel, rfl, by decide +kernel, by decide +kernel⟩
abbrev s_law_different : Stmt := topS 41
theorem sc_law_different : FnScope ["_law_values", "_law_value"] ["_law_values"] (defScope s_law_different) := ⟨rfl, rfl, rfl, by decide +kernel, rfl, by decide +kernel, by decide +kernel⟩
abbrev s_law_steps : Stmt := topS 42
theorem sc_law_steps : FnScope ["_law_rack_here", "_law_found", "_law_name", "_law_span"] ["_law_rack_here"] (defScope s_law_steps) := ⟨rfl, rfl, rfl, by decide +kernel, rfl, by decide +kernel, by decide +kernel⟩
abbrev s_law_next : Stmt := topS 43
theorem sc_law_next : FnScope ["_law_steps_here", "_law_end", "_law_place", "_law_laying"] ["_law_steps_here", "_law_end", "_law_place"] (defScope s_law_next) := ⟨rfl, rfl, rfl, by decide +kernel, rfl, by decide +kernel, by decide +kernel⟩
abbrev s_law : Stmt := topS 44
theorem sc_law : FnScope ["_law_script", "_law_box", "_law_rack_here", "_law_end", "_law_steps_here", "_law_begin", "_law_row", "_law_place", "_law_turn", "_law_some", "_law_laying", "_law_goal", "_law_here", "_law_index", "_law_other", "_law_total"] ["_law_script"] (defScope s_law) := ⟨rfl, rfl, rfl, by decide +kernel, rfl, by decide +kernel, by decide +kernel⟩
abbrev z_abcdefghijklmnopqrst : S := ⟨"abcdefghijklmnopqrstuvwxyz", by decide +kernel⟩
abbrev z_ash : S := ⟨"ash", by decide +kernel⟩
abbrev z_b : S := ⟨"b", by decide +kernel⟩
abbrev z_cane : S := ⟨"cane", by decide +kernel⟩
abbrev z_elm : S := ⟨"elm", by decide +kernel⟩
abbrev z_fir : S := ⟨"fir", by decide +kernel⟩
abbrev z_oak : S := ⟨"oak", by decide +kernel⟩
abbrev z_yew : S := ⟨"yew", by decide +kernel⟩
def m_law_take (m : Int) (bx : Bx) : Out (Int × Bx) :=
  (Out.guard (0 < m ∧ m < 2 ^ 400)).bind fun _ => match bx.1 with
    | [] => .ok ((bx.2 * 48271 % 2147483647 / 7) % m, ([], bx.2 * 48271 % 2147483647))
    | n :: rs => .ok (n % m, (if n / m = 0 ∨ n / m = -1 then rs else n / m :: rs, bx.2))
def stirB (ns : List Int) : Int := ns.foldl (fun s n => (s * 48271 + n * 69621 + 11) % 2147483647) 0
def m_law_begun (ns : List Int) : Bx := (ns, stirB ns * (if decide (2 < ((ns.length : Nat) : Int)) = true then 1 else 0))
def m_is_number (value1 : Int) (lowest2 : Int) (highest3 : Int) : Bool := (true && ((!false) && ((decide (lowest2 ≤ value1)) && (decide (value1 ≤ highest3)))))
def mk_Ruler (marks1 : List Int) (error2 : Int) : Out (Rul) :=
(Out.fold (σ := Unit) (fun s3 (x5 : (Int × Int)) =>
(if (decide (x5.1 = (0 : Int))) = true then (Out.ok (0 : Int)) else ((Out.get (pix marks1 (x5.1 - (1 : Int)))).bind fun x8 =>
Out.ok (x8 + (1 : Int)))).bind fun i7 =>
if ((decide (x5.1 = (12 : Int))) || (!(m_is_number x5.2 i7 (if (decide (x5.1 = (0 : Int))) = true then (0 : Int) else (300 : Int))))) = true then (
Out.no)
else (
Out.ok ())) (penum marks1) ()).bind fun s4 =>
if (decide (((marks1).length : Int) < (2 : Int))) = true then (
Out.no)
else (
if (!(m_is_number error2 (0 : Int) (9 : Int))) = true then (
Out.no)
else (
Out.ok ⟨error2, marks1⟩))
def m_Ruler_marks (self1 : Rul) : List Int := self1.marks
def m_spread_of (marks1 : List Int) : Out (List Int) :=
(Out.ok ([] : List Int)).bind fun found2 =>
(Out.fold (σ := List Int) (fun s3 (x5 : (Int × Int)) =>
(Out.guard ((s3).length + ((pcut marks1 (some (x5.1 + (1 : Int))) none).map (fun (x8 : Int) => x8 - x5.2)).length ≤ LIM)).bind fun _ =>
(Out.ok (s3 ++ ((pcut marks1 (some (x5.1 + (1 : Int))) none).map (fun (x8 : Int) => x8 - x5.2)))).bind fun found11 =>
Out.ok found11) (penum marks1) found2).bind fun s4 =>
Out.ok (isort s4)
def m_Ruler_spans (self1 : Rul) : Out (List Int) :=
(m_spread_of self1.marks).bind fun r3 =>
Out.ok (isort ((dmk (r3.map (fun (x2 : Int) => (x2, true)))).map (·.1)))
def m_is_name (name1 : S) : Out (Bool) :=
(if (!true) = true then Out.ok true else ((Out.guard (name1.1.length ≤ LIM)).bind fun _ =>
Out.ok (!((decide ((1 : Int) ≤ (name1.1.length : Int))) && (decide ((name1.1.length : Int) ≤ (8 : Int))))))).bind fun c2 =>
if c2 = true then (
Out.ok false)
else (
(Out.guard ((chrs name1).length ≤ LIM)).bind fun _ =>
Out.ok (decide ((((chrs name1).filter (fun (x4 : Chr) => !decide (x4 ∈ chrs z_abcdefghijklmnopqrst))).map (fun (x4 : Chr) => x4)) = ([] : List Chr))))
def mk_Rack (rulers1 : List (S × Rul)) : Out (Rak) :=
(Out.fold (σ := Unit) (fun s2 (x4 : (Int × S)) =>
(if (decide (x4.1 = (6 : Int))) = true then Out.ok true else ((m_is_name x4.2).bind fun r7 =>
Out.ok (!r7))).bind fun c6 =>
if c6 = true then (
Out.no)
else (
Out.ok ())) (penum (rulers1.map (·.1))) ()).bind fun s3 =>
if ((rulers1).isEmpty) = true then (
Out.no)
else (
(Out.guard ((rulers1).length < 64)).bind fun _ =>
(Out.compS (fun (s11 : Unit) (x8 : S) =>
(Out.get (dget rulers1 x8)).bind fun x13 =>
Out.ok (some (x8, x13), ())) (ssort (rulers1.map (·.1))) [] ()).bind fun l12 =>
Out.ok ⟨dmk l12.1⟩)
def m_Rack_names (self1 : Rak) : List S := (self1.held.map (·.1))
def m_Rack_steps (self1 : Rak) : Out (List ((S × Int))) :=
(Out.ok ([] : List ((S × Int)))).bind fun found2 =>
(Out.fold (σ := List ((S × Int))) (fun s3 (x5 : (S × Rul)) =>
((m_Ruler_spans x5.2).nox).bind fun r9 =>
(Out.guard ((s3).length + (r9.map (fun (x8 : Int) => (x5.1, (0 : Int) - x8))).length ≤ LIM)).bind fun _ =>
(Out.ok (s3 ++ (r9.map (fun (x8 : Int) => (x5.1, (0 : Int) - x8))))).bind fun found12 =>
((m_Ruler_spans x5.2).nox).bind fun r15 =>
(Out.guard ((found12).length + (r15.map (fun (x14 : Int) => (x5.1, x14))).length ≤ LIM)).bind fun _ =>
(Out.ok (found12 ++ (r15.map (fun (x14 : Int) => (x5.1, x14))))).bind fun found18 =>
Out.ok found18) self1.held found2).bind fun s4 =>
Out.ok (psort s4)
def m_Rack___getitem (self1 : Rak) (name2 : S) : Out (Rul) :=
if (!dhas self1.held name2) = true then (
Out.no)
else (
(Out.get (dget self1.held name2)).bind fun x3 =>
Out.ok x3)
def m_validate_places (end1 : Int) (places2 : List Int) : Out (Unit) :=
if (!(m_is_number end1 (1 : Int) (200 : Int))) = true then (
Out.no)
else (
(Out.fold (σ := Unit) (fun s4 (x6 : Int) =>
if (!(m_is_number x6 (0 : Int) end1)) = true then (
Out.no)
else (
Out.ok ())) places2 ()).bind fun s5 =>
Out.ok ())
def m_next_places (steps1 : List ((S × Int))) (end2 : Int) (place3 : Int) : List (((S × Int) × Int)) := ((steps1.filter (fun (x4 : (S × Int)) => (decide ((0 : Int) ≤ (place3 + x4.2))) && (decide ((place3 + x4.2) ≤ end2)))).map (fun (x4 : (S × Int)) => (x4, place3 + x4.2)))
def m_count_tables (rack1 : Rak) (end2 : Int) (goal3 : Int) (number4 : Int) : Out (List (List (Int × Int))) :=
((m_Rack_steps rack1).nox).bind fun r5 =>
(Out.ok r5).bind fun steps6 =>
(Out.ok [dmk [(goal3, (1 : Int))]]).bind fun found7 =>
(Out.guard (RG number4)).bind fun _ =>
(Out.fold (σ := List (List (Int × Int))) (fun s8 (x10 : Int) =>
(Out.ok ([] : List (Int × Int))).bind fun later12 =>
(Out.guard (RG (end2 + (1 : Int)))).bind fun _ =>
(Out.fold (σ := List (Int × Int)) (fun s13 (x15 : Int) =>
(Out.compS (fun (s20 : Unit) (x17 : ((S × Int) × Int)) =>
(Out.get (pix s8 (-(1 : Int)))).bind fun x22 =>
Out.ok (some ((dget x22 x17.2).getD (0 : Int)), ())) (m_next_places steps6 end2 x15) [] ()).bind fun l21 =>
(Out.ok ((l21.1).sum)).bind fun many23 =>
(if (decide ((0 : Int) < many23)) = true then (
(Out.guard ((s13).length < LIM)).bind fun _ =>
(Out.ok (dput s13 x15 many23)).bind fun later26 =>
Out.ok later26)
else (
Out.ok s13) : Out (List (Int × Int))).bind fun s24 =>
Out.ok s24) (rgI 0 (end2 + (1 : Int))) later12).bind fun s14 =>
(Out.guard ((s8).length < LIM)).bind fun _ =>
(Out.ok (s8 ++ [s14])).bind fun found29 =>
Out.ok found29) (rgI 0 number4) found7).bind fun s9 =>
Out.ok s9
def m_validate_rows (end1 : Int) (begin2 : Int) (goal3 : Int) (number4 : Int) : Out (Unit) :=
(m_validate_places end1 [begin2, goal3]).bind fun r5 =>
if (!(m_is_number number4 (0 : Int) (60 : Int))) = true then (
Out.no)
else (
Out.ok ())
def m_row_count (rack1 : Rak) (end2 : Int) (begin3 : Int) (goal4 : Int) (number5 : Int) : Out (Int) :=
(m_validate_rows end2 begin3 goal4 number5).bind fun r6 =>
(m_count_tables rack1 end2 goal4 number5).bind fun r7 =>
(Out.get (pix r7 (-(1 : Int)))).bind fun x8 =>
Out.ok ((dget x8 begin3).getD (0 : Int))
def m_row_at (rack1 : Rak) (end2 : Int) (begin3 : Int) (goal4 : Int) (number5 : Int) (index6 : Int) : Out (List ((S × Int))) :=
(m_validate_rows end2 begin3 goal4 number5).bind fun r7 =>
(m_count_tables rack1 end2 goal4 number5).bind fun r8 =>
(Out.get (pix r8 (-(1 : Int)))).bind fun x9 =>
if (!(m_is_number index6 (0 : Int) (((dget x9 begin3).getD (0 : Int)) - (1 : Int)))) = true then (
Out.no)
else (
((m_Rack_steps rack1).nox).bind fun r11 =>
(Out.ok r11).bind fun steps12 =>
(Out.ok ([] : List ((S × Int)))).bind fun found13 =>
(Out.ok begin3).bind fun place14 =>
(Out.ok index6).bind fun left15 =>
(Out.guard (RgC (number5 - (1 : Int)) (-(1 : Int)) (-(1 : Int)) (Builtin.Range.rangeSize (number5 - (1 : Int)) (-(1 : Int)) (-(1 : Int))).toNat)).bind fun _ =>
(Out.fold (σ := Int × (List ((S × Int))) × Int) (fun s16 (x18 : Int) =>
(Out.compS (fun (s23 : Unit) (x20 : ((S × Int) × Int)) =>
(Out.get (pix r8 x18)).bind fun x25 =>
Out.ok (some (x20.1, x20.2, (dget x25 x20.2).getD (0 : Int)), ())) (m_next_places steps12 end2 s16.2.2) [] ()).bind fun l24 =>
(Out.whl (σ := Int × (List (((S × Int) × Int × Int)))) (fun s26 =>
(Out.get (pix s26.2 (0 : Int))).bind fun x29 =>
Out.ok (decide (x29.2.2 ≤ s26.1))) (fun s26 =>
(Out.get (pix s26.2 (0 : Int))).bind fun x30 =>
(Out.ok (s26.1 - x30.2.2)).bind fun left31 =>
(Out.guard (0 ≤ (0 : Int))).bind fun _ =>
(Out.get (s26.2[((0 : Int)).toNat]?)).bind fun x34 =>
(Out.guard ((s26.2).length ≤ LIM)).bind fun _ =>
(Out.ok (s26.2.eraseIdx ((0 : Int)).toNat)).bind fun rows36 =>
Out.ok (left31, rows36)) 1000000 (s16.1, l24.1)).bind fun s27 =>
(Out.get (pix s27.2 (0 : Int))).bind fun x38 =>
(Out.guard ((s16.2.1).length < LIM)).bind fun _ =>
(Out.ok (s16.2.1 ++ [x38.1])).bind fun found40 =>
(Out.get (pix s27.2 (0 : Int))).bind fun x41 =>
Out.ok (s27.1, found40, x41.2.1)) (rgS (number5 - (1 : Int)) (-(1 : Int)) (-(1 : Int))) (left15, found13, place14)).bind fun s17 =>
Out.ok s17.2.1)
def m_law_marks (most1 : Int) (length2 : Int) (bx : Bx) : Out (List Int × Bx) :=
(Out.guard (RgOk (1 : Int) (length2 + (1 : Int)))).bind fun _ =>
(Out.ok (rgI (1 : Int) (length2 + (1 : Int)))).bind fun left4 =>
(Out.ok [(0 : Int)]).bind fun found5 =>
(m_law_take (most1 - (1 : Int)) bx).bind fun r9 =>
(Out.guard (RG ((1 : Int) + r9.1))).bind fun _ =>
(Out.fold (σ := (List Int) × (List Int) × Bx) (fun s6 (x8 : Int) =>
(if (!decide (s6.2.1 = ([] : List Int))) = true then (
(m_law_take ((s6.2.1).length : Int) s6.2.2).bind fun r14 =>
(Out.guard (0 ≤ r14.1)).bind fun _ =>
(Out.get (s6.2.1[(r14.1).toNat]?)).bind fun x16 =>
(Out.guard ((s6.2.1).length ≤ LIM)).bind fun _ =>
(Out.guard ((s6.1).length < LIM)).bind fun _ =>
(Out.ok (s6.1 ++ [x16])).bind fun found19 =>
(Out.ok (s6.2.1.eraseIdx (r14.1).toNat)).bind fun left20 =>
Out.ok (found19, left20, r14.2))
else (
Out.ok (s6.1, s6.2.1, s6.2.2)) : Out ((List Int) × (List Int) × Bx)).bind fun s11 =>
Out.ok (s11.1, s11.2.1, s11.2.2)) (rgI 0 ((1 : Int) + r9.1)) (found5, left4, r9.2)).bind fun s7 =>
Out.ok (isort s7.1, s7.2.2)
def m_law_ruler (most1 : Int) (length2 : Int) (bx : Bx) : Out (Rul × Bx) :=
(m_law_marks most1 length2 bx).bind fun r3 =>
(m_law_take (4 : Int) r3.2).bind fun r4 =>
(mk_Ruler r3.1 r4.1).bind fun r5 =>
Out.ok (r5, r4.2)
def m_law_rack (many1 : Int) (most2 : Int) (length3 : Int) (bx : Bx) : Out (Rak × Bx) :=
(Out.ok ([] : List (S × Rul))).bind fun found4 =>
(m_law_take many1 bx).bind fun r8 =>
(Out.guard (RG ((1 : Int) + r8.1))).bind fun _ =>
(Out.fold (σ := (List (S × Rul)) × Bx) (fun s5 (x7 : Int) =>
(m_law_take (7 : Int) s5.2).bind fun r10 =>
(Out.get (pix [z_ash, z_b, z_cane, z_elm, z_fir, z_oak, z_yew] r10.1)).bind fun x11 =>
(if ((dhas s5.1 x11) || (decide (((s5.1).length : Int) < many1))) = true then (
(m_law_ruler most2 length3 r10.2).bind fun r13 =>
(Out.guard ((s5.1).length < LIM)).bind fun _ =>
(Out.ok (dput s5.1 x11 r13.1)).bind fun found15 =>
Out.ok (found15, r13.2))
else (
Out.ok (s5.1, r10.2)) : Out ((List (S × Rul)) × Bx)).bind fun s12 =>
Out.ok (s12.1, s12.2)) (rgI 0 ((1 : Int) + r8.1)) (found4, r8.2)).bind fun s6 =>
(mk_Rack s6.1).bind fun r16 =>
Out.ok (r16, s6.2)
def m_law_spans (marks_here1 : List Int) : Out (List Int) :=
(Out.ok ([] : List Int)).bind fun found2 =>
(Out.guard (RG ((marks_here1).length : Int))).bind fun _ =>
(Out.fold (σ := List Int) (fun s3 (x5 : Int) =>
(Out.compS (fun (s10 : Unit) (x8 : Int) =>
(Out.get (pix marks_here1 x5)).bind fun x12 =>
Out.ok (some (x8 - x12), ())) (pcut marks_here1 (some (x5 + (1 : Int))) none) [] ()).bind fun l11 =>
(Out.guard ((s3).length + (l11.1).length ≤ LIM)).bind fun _ =>
(Out.ok (s3 ++ l11.1)).bind fun found14 =>
Out.ok found14) (rgI 0 ((marks_here1).length : Int)) found2).bind fun s4 =>
Out.ok (isort s4)
def m_law_different (values1 : List Int) : List Int := (isort ((dmk (values1.map (fun (x2 : Int) => (x2, true)))).map (·.1)))
def m_law_steps (rack_here1 : Rak) : Out (List ((S × Int))) :=
(Out.ok ([] : List ((S × Int)))).bind fun found2 =>
(Out.fold (σ := List ((S × Int))) (fun s3 (x5 : S) =>
((m_Rack___getitem rack_here1 x5).nox).bind fun r11 =>
(m_law_spans (m_Ruler_marks r11)).bind fun r13 =>
(Out.fold (σ := List ((S × Int))) (fun s8 (x10 : Int) =>
(Out.guard ((s8).length + ([(x5, x10), (x5, (0 : Int) - x10)]).length ≤ LIM)).bind fun _ =>
(Out.ok (s8 ++ [(x5, x10), (x5, (0 : Int) - x10)])).bind fun found17 =>
Out.ok found17) (m_law_different r13) s3).bind fun s9 =>
Out.ok s9) (m_Rack_names rack_here1) found2).bind fun s4 =>
Out.ok (psort s4)
def m_law_next (steps_here1 : List ((S × Int))) (end2 : Int) (place3 : Int) : List (((S × Int) × Int)) := ((steps_here1.filter (fun (x4 : (S × Int)) => (decide ((0 : Int) ≤ (place3 + x4.2))) && (decide ((place3 + x4.2) ≤ end2)))).map (fun (x4 : (S × Int)) => (x4, place3 + x4.2)))
def m_law (script1 : List Int) : Out (Bool) :=
(m_law_rack (2 : Int) (4 : Int) (9 : Int) (m_law_begun script1)).bind fun r2 =>
(m_law_take (12 : Int) r2.2).bind fun r3 =>
(Out.ok r2.1).bind fun rack_here4 =>
(Out.ok ((9 : Int) + r3.1)).bind fun end5 =>
(m_law_steps rack_here4).bind fun r6 =>
(m_law_take (end5 + (1 : Int)) r3.2).bind fun r7 =>
(Out.ok r6).bind fun steps_here8 =>
(Out.ok r7.1).bind fun begin9 =>
(Out.ok ([] : List ((S × Int)))).bind fun row10 =>
(m_law_take (61 : Int) r7.2).bind fun r14 =>
(Out.guard (RG r14.1)).bind fun _ =>
(Out.fold (σ := Int × (List ((S × Int))) × Bx) (fun s11 (x13 : Int) =>
(Out.ok (m_law_next steps_here8 end5 s11.1)).bind fun some17 =>
(if (!decide (some17 = ([] : List (((S × Int) × Int))))) = true then (
(m_law_take ((some17).length : Int) s11.2.2).bind fun r19 =>
(Out.get (pix some17 r19.1)).bind fun x20 =>
(Out.ok x20.1).bind fun laying21 =>
(Out.ok x20.2).bind fun place22 =>
(Out.guard ((s11.2.1).length < LIM)).bind fun _ =>
(Out.ok (s11.2.1 ++ [laying21])).bind fun row25 =>
Out.ok (place22, row25, r19.2))
else (
Out.ok (s11.1, s11.2.1, s11.2.2)) : Out (Int × (List ((S × Int))) × Bx)).bind fun s18 =>
Out.ok (s18.1, s18.2.1, s18.2.2)) (rgI 0 r14.1) (begin9, row10, r14.2)).bind fun s12 =>
(Out.ok s12.1).bind fun goal26 =>
(Out.ok begin9).bind fun here27 =>
(Out.ok (0 : Int)).bind fun index28 =>
(Out.guard (RG ((s12.2.1).length : Int))).bind fun _ =>
(Out.fold (σ := Int × Int) (fun s29 (x31 : Int) =>
(Out.fold (σ := Int) (fun s33 (x35 : ((S × Int) × Int)) =>
((Out.get (pix s12.2.1 x31)).bind fun x39 =>
if (ltC (eP eZ eI) x35.1 x39) = true then (
(m_row_count rack_here4 end5 x35.2 goal26 ((((s12.2.1).length : Int) - x31) - (1 : Int))).bind fun r40 =>
(Out.ok (s33 + r40)).bind fun index41 =>
Out.ok index41)
else (
Out.ok s33) : Out (Int)).bind fun s38 =>
Out.ok s38) (m_law_next steps_here8 end5 s29.2) s29.1).bind fun s34 =>
(Out.get (pix s12.2.1 x31)).bind fun x42 =>
(Out.ok (s29.2 + x42.2)).bind fun here43 =>
Out.ok (s34, here43)) (rgI 0 ((s12.2.1).length : Int)) (index28, here27)).bind fun s30 =>
(m_row_count rack_here4 end5 begin9 goal26 ((s12.2.1).length : Int)).bind fun r44 =>
if (!((decide ((0 : Int) ≤ s30.1)) && (decide (s30.1 < r44)))) = true then (
Out.ok false)
else (
(m_row_at rack_here4 end5 begin9 goal26 ((s12.2.1).length : Int) s30.1).bind fun r45 =>
(Out.guard (r45 = s12.2.1 ∧ alB 2 ((eL (eP eZ eI)) r45) = true)).bind fun _ =>
if (!true) = true then (
Out.ok false)
else (
(if (decide ((0 : Int) < s30.1)) = true then ((m_row_at rack_here4 end5 begin9 goal26 ((s12.2.1).length : Int) (s30.1 - (1 : Int))).bind fun r48 =>
Out.ok (leC (eL (eP eZ eI)) s12.2.1 r48)) else Out.ok false).bind fun c47 =>
if c47 = true then (
Out.ok false)
else (
(if (decide (s30.1 + (1 : Int) = r44)) = true then Out.ok true else ((m_row_at rack_here4 end5 begin9 goal26 ((s12.2.1).length : Int) (s30.1 + (1 : Int))).bind fun r50 =>
Out.ok (ltC (eL (eP eZ eI)) s12.2.1 r50))).bind fun c49 =>
Out.ok c49)))
theorem take_yes {m : Int} (h0 : 0 < m) (h1 : m < 1073741824) (bx : Bx) : (m_law_take m bx).yes fun r => 0 ≤ r.1 ∧ r.1 < m := by
  unfold m_law_take
  refine Out.yes_guard ⟨h0, Int.lt_of_lt_of_le h1 (by decide)⟩ ?_
  split
  · exact Out.yes_ok ⟨Int.emod_nonneg _ (by omega), Int.emod_lt_of_pos _ h0⟩
  · exact Out.yes_ok ⟨Int.emod_nonneg _ (by omega), Int.emod_lt_of_pos _ h0⟩
structure RulOk (r : Rul) : Prop where
  lt : r.marks.Pairwise (· < ·)
  hd : r.marks[0]? = some 0
  lo : 2 ≤ r.marks.length
  hi : r.marks.length ≤ 12
  le : ∀ m, m ∈ r.marks → m ≤ 300
  e0 : 0 ≤ r.error
  e9 : r.error ≤ 9
theorem isnum_iff {v a b : Int} : m_is_number v a b = true ↔ a ≤ v ∧ v ≤ b := by unfold m_is_number; simp
theorem isnum_t {v a b : Int} (h1 : a ≤ v) (h2 : v ≤ b) : m_is_number v a b = true := isnum_iff.mpr ⟨h1, h2⟩
theorem pairwise_get {xs : List Int} (h : xs.Pairwise (· < ·)) {i j : Nat} {x y : Int} (hx : xs[i]? = some x) (hy : xs[j]? = some y) (hij : i < j) : x < y := by
  obtain ⟨h1, rfl⟩ := List.getElem?_eq_some_iff.mp hx
  obtain ⟨h2, rfl⟩ := List.getElem?_eq_some_iff.mp hy
  exact List.pairwise_iff_getElem.mp h i j h1 h2 hij
theorem RulOk.nn {r : Rul} (h : RulOk r) {m : Int} (hm : m ∈ r.marks) : 0 ≤ m := by
  obtain ⟨i, hi, rfl⟩ := List.getElem_of_mem hm
  rcases Nat.eq_zero_or_pos i with z | z
  · subst z
    have := h.hd
    rw [List.getElem?_eq_getElem hi] at this
    have := Option.some.inj this
    omega
  · have := pairwise_get h.lt h.hd (List.getElem?_eq_getElem hi) z
    omega
theorem mk_Ruler_ok {ms : List Int} {e : Int} (h : RulOk ⟨e, ms⟩) : mk_Ruler ms e = .ok ⟨e, ms⟩ := by
  apply Out.yes.eq
  unfold mk_Ruler
  have hlo := h.lo
  have hhi := h.hi
  have he0 := h.e0
  have he9 := h.e9
  dsimp only at hlo hhi he0 he9
  refine Out.yes_bind (R := fun _ => True) (Out.fold_yes (fun _ _ => True) _ _ trivial fun pre x post s hp _ => ?_) fun _ _ => ?_
  · obtain ⟨i, hi, h1, h2, _⟩ := penum_split hp
    have hlt := (List.getElem?_eq_some_iff.mp h2).1
    rcases Nat.eq_zero_or_pos i with z | z
    · subst z
      have hx0 : x.2 = 0 := by have := h.hd; dsimp only at this; rw [h2] at this; exact Option.some.inj this
      rw [if_pos (by rw [h1]; simp), Out.bind_ok]
      refine Out.yes_ifF ?_ (Out.yes_ok trivial)
      rw [h1, hx0]; rfl
    · rw [if_neg (by rw [h1]; simp; omega)]
      have hprev : ms[i - 1]? = some (ms[i - 1]'(by omega)) := List.getElem?_eq_getElem (by omega)
      rw [Out.bind_get (a := ms[i - 1]'(by omega)) (by rw [h1, show ((i : Nat) : Int) - 1 = ((i - 1 : Nat) : Int) by omega]; exact pix_nat hprev), Out.bind_ok]
      refine Out.yes_ifF ?_ (Out.yes_ok trivial)
      have hl := pairwise_get h.lt hprev h2 (by omega)
      have h3 := h.le x.2 (List.mem_of_getElem? h2)
      rw [if_neg (by rw [h1]; simp; omega), isnum_t (by omega) h3]
      simp; omega
  · refine Out.yes_ifF (by simp; omega) (Out.yes_ifF ?_ (Out.yes_ok rfl))
    rw [isnum_t he0 he9]; rfl
/-- all distances of two marks -/
def spreadL : List Int → List Int
  | [] => []
  | m :: ms => ms.map (fun x => x - m) ++ spreadL ms
theorem spreadL_len : ∀ ms : List Int, (spreadL ms).length ≤ ms.length * ms.length
  | [] => by simp [spreadL]
  | m :: ms => by
    have := spreadL_len ms
    unfold spreadL
    rw [List.length_append, List.length_map, List.length_cons]
    have e : (ms.length + 1) * (ms.length + 1) = ms.length * ms.length + 2 * ms.length + 1 := by
      rw [Nat.add_mul, Nat.mul_add]; omega
    omega
theorem mem_spreadL {ms : List Int} {d : Int} : d ∈ spreadL ms ↔ ∃ (i j : Nat) (x y : Int), i < j ∧ ms[i]? = some x ∧ ms[j]? = some y ∧ d = y - x := by
  induction ms with
  | nil => unfold spreadL; simp
  | cons m ms ih =>
    unfold spreadL
    rw [List.mem_append, List.mem_map, ih]
    constructor
    · rintro (⟨y, hy, rfl⟩ | ⟨i, j, x, y, h1, h2, h3, h4⟩)
      · obtain ⟨j, hj⟩ := List.getElem?_of_mem hy
        exact ⟨0, j + 1, m, y, by omega, by simp, by simpa using hj, rfl⟩
      · exact ⟨i + 1, j + 1, x, y, by omega, by simpa using h2, by simpa using h3, h4⟩
    · rintro ⟨i, j, x, y, h1, h2, h3, h4⟩
      cases j with
      | zero => omega
      | succ j =>
        rw [List.getElem?_cons_succ] at h3
        cases i with
        | zero =>
          rw [List.getElem?_cons_zero] at h2
          cases h2
          exact .inl ⟨y, List.mem_of_getElem? h3, h4.symm⟩
        | succ i =>
          rw [List.getElem?_cons_succ] at h2
          exact .inr ⟨i, j, x, y, by omega, h2, h3, h4⟩
theorem spread_ok {ms : List Int} (hl : ms.length ≤ 1000) : m_spread_of ms = .ok (isort (spreadL ms)) := by
  unfold m_spread_of
  rw [Out.bind_ok]
  have key : ∀ (xs pre : List Int) (s : List Int), ms = pre ++ xs → s.length + (spreadL xs).length ≤ 1000000 → Out.fold (σ := List Int) (fun s3 (x5 : (Int × Int)) =>
      (Out.guard ((s3).length + ((pcut ms (some (x5.1 + (1 : Int))) none).map (fun (x8 : Int) => x8 - x5.2)).length ≤ LIM)).bind fun _ =>
      (Out.ok (s3 ++ ((pcut ms (some (x5.1 + (1 : Int))) none).map (fun (x8 : Int) => x8 - x5.2)))).bind fun found11 =>
      Out.ok found11) (penumF pre.length xs) s = .ok (s ++ spreadL xs) := by
    intro xs
    induction xs with
    | nil => intro pre s _ _; unfold penumF spreadL; rw [Out.fold_nil, List.append_nil]
    | cons x xs ih =>
      intro pre s e hs
      unfold penumF
      rw [Out.fold_cons]
      dsimp only
      have hc : pcut ms (some ((pre.length : Int) + 1)) none = xs := by
        rw [show (pre.length : Int) + 1 = ((pre.length + 1 : Nat) : Int) by omega, pcut_from, e]
        rw [show pre ++ x :: xs = (pre ++ [x]) ++ xs by simp, List.drop_left' (by simp)]
      unfold spreadL at hs ⊢
      rw [List.length_append, List.length_map] at hs
      rw [hc, Out.bind_guard (by rw [List.length_map]; show _ ≤ 16777216; omega), Out.bind_ok, Out.bind_ok]
      have := ih (pre ++ [x]) (s ++ xs.map (fun y => y - x)) (by rw [e]; simp) (by rw [List.length_append, List.length_map]; omega)
      rw [show (pre ++ [x]).length = pre.length + 1 by simp] at this
      rw [this, List.append_assoc]
  have hq := spreadL_len ms
  have hb : ms.length * ms.length ≤ 1000 * 1000 := Nat.mul_le_mul hl hl
  have := key ms [] [] rfl (by rw [List.length_nil]; omega)
  rw [show penum ms = penumF ([] : List Int).length ms from rfl, this, List.nil_append, Out.bind_ok]
/-- all different distances -/
def spansL (ms : List Int) : List Int := isort ((dmk ((isort (spreadL ms)).map fun x => (x, true))).map (·.1))
theorem mem_spansL {ms : List Int} {d : Int} : d ∈ spansL ms ↔ d ∈ spreadL ms := by
  unfold spansL
  rw [mem_isort]
  show d ∈ keys (dmk _) ↔ _
  rw [mem_keys_dmk]
  unfold keys
  rw [List.map_map, show ((fun x : Int × Bool => x.1) ∘ fun x : Int => (x, true)) = id from rfl, List.map_id, mem_isort]
theorem spansL_lt (ms : List Int) : (spansL ms).Pairwise (· < ·) := isort_lt (dmk_nodup _)
theorem spansL_len (ms : List Int) : (spansL ms).length ≤ ms.length * ms.length := by
  refine Nat.le_trans ?_ (spreadL_len ms)
  unfold spansL
  rw [isort_length, List.length_map]
  refine Nat.le_trans (dmk_len _) ?_
  rw [List.length_map, isort_length]; exact Nat.le_refl _
theorem spans_ok {r : Rul} (hl : r.marks.length ≤ 1000) : m_Ruler_spans r = .ok (spansL r.marks) := by
  unfold m_Ruler_spans spansL; rw [spread_ok hl, Out.bind_ok]
/-- the spans of a good ruler -/
theorem RulOk.span {r : Rul} (h : RulOk r) {d : Int} (hd : d ∈ spansL r.marks) : 0 < d ∧ d ≤ 300 := by
  rw [mem_spansL, mem_spreadL] at hd
  obtain ⟨i, j, x, y, h1, h2, h3, rfl⟩ := hd
  have := pairwise_get h.lt h2 h3 h1
  have h4 := h.nn (List.mem_of_getElem? h2)
  have h5 := h.le y (List.mem_of_getElem? h3)
  omega
structure RakOk (r : Rak) : Prop where
  ru : ∀ p, p ∈ r.held → RulOk p.2
  nd : (keys r.held).Nodup
  ne : r.held ≠ []
  le : r.held.length ≤ 6
  so : (keys r.held).Pairwise fun a b => leS a b = true
def stepsU (held : List (S × Rul)) : List (S × Int) := held.flatMap fun p => (spansL p.2.marks).map (fun x => (p.1, 0 - x)) ++ (spansL p.2.marks).map (fun x => (p.1, x))
def stepsL (r : Rak) : List (S × Int) := psort (stepsU r.held)
theorem steps_ok {r : Rak} (h : RakOk r) : m_Rack_steps r = .ok (stepsL r) := by
  unfold m_Rack_steps
  rw [Out.bind_ok]
  have key : ∀ (hs : List (S × Rul)) (s : List (S × Int)), (∀ p, p ∈ hs → RulOk p.2) → s.length + 300 * hs.length ≤ 10000 → Out.fold (σ := List (S × Int)) (fun s3 (x5 : (S × Rul)) =>
      ((m_Ruler_spans x5.2).nox).bind fun r9 =>
      (Out.guard ((s3).length + (r9.map (fun (x8 : Int) => (x5.1, (0 : Int) - x8))).length ≤ LIM)).bind fun _ =>
      (Out.ok (s3 ++ (r9.map (fun (x8 : Int) => (x5.1, (0 : Int) - x8))))).bind fun found12 =>
      ((m_Ruler_spans x5.2).nox).bind fun r15 =>
      (Out.guard ((found12).length + (r15.map (fun (x14 : Int) => (x5.1, x14))).length ≤ LIM)).bind fun _ =>
      (Out.ok (found12 ++ (r15.map (fun (x14 : Int) => (x5.1, x14))))).bind fun found18 =>
      Out.ok found18) hs s = .ok (s ++ stepsU hs) := by
    intro hs
    induction hs with
    | nil => intro s _ _; rw [Out.fold_nil]; unfold stepsU; simp
    | cons p hs ih =>
      intro s h hl
      have hp := h p List.mem_cons_self
      have h12 := hp.hi
      have hsl := spansL_len p.2.marks
      have : p.2.marks.length * p.2.marks.length ≤ 12 * 12 := Nat.mul_le_mul h12 h12
      rw [List.length_cons] at hl
      rw [Out.fold_cons, spans_ok (by omega), Out.nox_ok, Out.bind_ok, Out.bind_guard (by rw [List.length_map]; show _ ≤ 16777216; omega), Out.bind_ok, Out.bind_ok, Out.bind_guard (by rw [List.length_append, List.length_map, List.length_map]; show _ ≤ 16777216; omega), Out.bind_ok, Out.bind_ok]
      rw [ih _ (fun q hq => h q (List.mem_cons_of_mem _ hq)) (by rw [List.length_append, List.length_append, List.length_map, List.length_map]; omega)]
      unfold stepsU
      rw [List.flatMap_cons, List.append_assoc, List.append_assoc]
      simp only [List.append_assoc]
  have hle := h.le
  rw [key r.held [] h.ru (by rw [List.length_nil]; omega), List.nil_append, Out.bind_ok]; rfl
theorem mem_stepsL {r : Rak} {st : S × Int} : st ∈ stepsL r ↔ ∃ p, p ∈ r.held ∧ st.1 = p.1 ∧ (st.2 ∈ spansL p.2.marks ∨ 0 - st.2 ∈ spansL p.2.marks) := by
  unfold stepsL
  rw [(psort_perm _).mem_iff]
  unfold stepsU
  rw [List.mem_flatMap]
  constructor
  · rintro ⟨p, hp, hs⟩
    rw [List.mem_append, List.mem_map, List.mem_map] at hs
    rcases hs with ⟨x, hx, rfl⟩ | ⟨x, hx, rfl⟩
    · exact ⟨p, hp, rfl, .inr (by simpa using hx)⟩
    · exact ⟨p, hp, rfl, .inl hx⟩
  · rintro ⟨p, hp, h1, h2⟩
    refine ⟨p, hp, ?_⟩
    rw [List.mem_append, List.mem_map, List.mem_map]
    rcases h2 with h2 | h2
    · exact .inr ⟨st.2, h2, by rw [← h1]⟩
    · exact .inl ⟨0 - st.2, h2, by rw [← h1]; simp⟩
/-- a rack out of a dict of rulers -/
theorem mk_Rack_ok {rs : List (S × Rul)} (hn : ∀ p, p ∈ rs → m_is_name p.1 = .ok true) (nd : (keys rs).Nodup) (ne : rs ≠ []) (le : rs.length ≤ 6) (ru : ∀ p, p ∈ rs → RulOk p.2) :
    (mk_Rack rs).yes fun r => RakOk r ∧ keys r.held = ssort (keys rs) ∧ (∀ p, p ∈ r.held ↔ p ∈ rs) ∧ r.held.length = rs.length := by
  unfold mk_Rack
  refine Out.yes_bind (R := fun _ => True) (Out.fold_yes (fun _ _ => True) _ _ trivial fun pre x post s hp _ => ?_) fun _ _ => ?_
  · obtain ⟨i, hi, h1, h2, _⟩ := penum_split hp
    have hlt := (List.getElem?_eq_some_iff.mp h2).1
    rw [List.length_map] at hlt
    have hx := List.mem_of_getElem? h2
    rw [List.mem_map] at hx
    obtain ⟨p, hp1, hp2⟩ := hx
    rw [if_neg (by rw [h1]; simp; omega), ← hp2, hn p hp1, Out.bind_ok, Out.bind_ok]
    exact Out.yes_ifF rfl (Out.yes_ok trivial)
  · refine Out.yes_ifF (by cases rs with | nil => exact absurd rfl ne | cons a b => rfl) (Out.yes_guard (by omega) ?_)
    have hperm : (ssort (keys rs)).Perm (keys rs) := ssort_perm _
    let val : S → Rul := fun k => (dget rs k).getD ⟨0, []⟩
    rw [Out.compS_unit (o := fun k => some (k, val k)) _ _ fun k hk => by
      obtain ⟨v, hv⟩ := dget_some (hperm.mem_iff.mp hk)
      rw [Out.bind_get hv]
      show _ = Out.ok (some (k, (dget rs k).getD ⟨0, []⟩), ())
      rw [hv]; rfl]
    rw [Out.bind_ok, List.nil_append]
    have hfm : (ssort (keys rs)).filterMap (fun k => some (k, val k)) = (ssort (keys rs)).map fun k => (k, val k) := by rw [← List.filterMap_eq_map]; rfl
    have hk : keys ((ssort (keys rs)).map fun k => (k, val k)) = ssort (keys rs) := by
      unfold keys; rw [List.map_map]; exact List.map_id _
    have hnd : (keys ((ssort (keys rs)).map fun k => (k, val k))).Nodup := by rw [hk]; exact hperm.nodup_iff.mpr nd
    dsimp only
    rw [hfm, dmk_of_nodup hnd]
    have hmem : ∀ p, p ∈ ((ssort (keys rs)).map fun k => (k, val k)) ↔ p ∈ rs := by
      intro p
      rw [List.mem_map]
      constructor
      · rintro ⟨k, hk1, rfl⟩
        obtain ⟨v, hv⟩ := dget_some (hperm.mem_iff.mp hk1)
        show (k, (dget rs k).getD ⟨0, []⟩) ∈ rs
        rw [hv]; exact dget_mem hv
      · intro hp
        refine ⟨p.1, hperm.mem_iff.mpr (List.mem_map.mpr ⟨p, hp, rfl⟩), ?_⟩
        show (p.1, (dget rs p.1).getD ⟨0, []⟩) = p
        rw [dget_of_mem nd (show (p.1, p.2) ∈ rs from hp)]; rfl
    have hlen : ((ssort (keys rs)).map fun k => (k, val k)).length = rs.length := by
      rw [List.length_map, hperm.length_eq]; unfold keys; rw [List.length_map]
    refine Out.yes_ok ⟨⟨fun p hp => ru p ((hmem p).mp hp), hnd, ?_, by rw [hlen]; exact le, by dsimp only; rw [hk]; exact ssort_sorted _⟩, hk, hmem, hlen⟩
    intro z
    dsimp only at z
    rw [z] at hlen
    cases rs with
    | nil => exact ne rfl
    | cons a b => simp at hlen
theorem item_ok {r : Rak} {n : S} {u : Rul} (h : dget r.held n = some u) : m_Rack___getitem r n = .ok u := by
  unfold m_Rack___getitem
  have : n ∈ keys r.held := by apply Classical.byContradiction; intro z; rw [dget_none.mpr z] at h; cases h
  rw [dhas_iff.mpr this, if_neg (by simp), Out.bind_get h]
theorem marks_yes {most length : Int} (h1 : 2 ≤ most) (h2 : most ≤ 12) (h3 : 1 ≤ length) (h4 : length ≤ 300) (bx : Bx) : (m_law_marks most length bx).yes fun r => r.1.Pairwise (· < ·) ∧ r.1[0]? = some 0 ∧ 2 ≤ r.1.length ∧ (r.1.length : Int) ≤ most ∧ ∀ m, m ∈ r.1 → m ≤ length := by
  unfold m_law_marks
  refine Out.yes_guard (by unfold RgOk; omega) (Out.yes_let (Out.yes_let ?_))
  refine Out.yes_bind (take_yes (by omega) (by omega) _) fun r9 h9 => ?_
  refine Out.yes_guard (by constructor <;> omega) ?_
  refine Out.yes_bind (R := fun s => s.1.Nodup ∧ (0 : Int) ∈ s.1 ∧ (∀ x, x ∈ s.1 → 0 ≤ x ∧ x ≤ length) ∧ 2 ≤ s.1.length ∧ (s.1.length : Int) ≤ most) (Out.yes.mono (Out.fold_yes (fun pre s => s.1.Nodup ∧ (0 : Int) ∈ s.1 ∧ (∀ x, x ∈ s.1 → 0 ≤ x ∧ x ≤ length) ∧ s.2.1.Nodup ∧ (∀ x, x ∈ s.2.1 → 1 ≤ x ∧ x ≤ length ∧ x ∉ s.1) ∧ (1 : Nat) ≤ s.1.length ∧ s.1.length ≤ 1 + pre.length ∧ (pre ≠ [] → 2 ≤ s.1.length) ∧ (pre = [] → s.2.1 ≠ []) ∧ s.2.1.length ≤ 300) _ _ ?_ fun pre x post s hp hI => ?_) fun s hs => ?_) fun s hs => ?_
  · refine ⟨by simp, by simp, by simp; omega, nodup_of_lt (rgI_lt _ _), fun x hx => ?_, by simp, by simp, by simp, fun _ => ?_, ?_⟩
    · rw [mem_rgI] at hx; refine ⟨by omega, by omega, ?_⟩; simp; omega
    · rw [rgI_cons (by omega)]; simp
    · rw [rgI_length]; omega
  · obtain ⟨i1, i2, i3, i4, i5, i6, i7, i8, i9, i10⟩ := hI
    have hplen : pre.length ≤ 12 := by
      have hl : (rgI 0 ((1 : Int) + r9.1)).length = pre.length + (post.length + 1) := by rw [hp]; simp
      rw [rgI_length] at hl; omega
    by_cases hl : s.2.1 = []
    · rw [if_neg (by simp [hl]), Out.bind_ok]
      refine Out.yes_ok ⟨i1, i2, i3, i4, i5, i6, by simp; omega, fun _ => ?_, fun z => by simp at z, i10⟩
      by_cases hpre : pre = []
      · exact absurd hl (i9 hpre)
      · exact i8 hpre
    · rw [if_pos (by simp [hl])]
      have hpos : 0 < s.2.1.length := List.length_pos_iff.mpr hl
      rw [Out.bind_assoc]
      refine Out.yes_bind (take_yes (by omega) (by omega) _) fun r14 h14 => ?_
      rw [Out.bind_assoc]
      refine Out.yes_guard h14.1 ?_
      have hlt : r14.1.toNat < s.2.1.length := by omega
      rw [Out.bind_assoc]
      refine Out.yes_get (List.getElem?_eq_getElem hlt) ?_
      rw [Out.bind_assoc]
      refine Out.yes_guard (by show _ ≤ 16777216; omega) ?_
      rw [Out.bind_assoc]
      refine Out.yes_guard (by show _ < 16777216; omega) ?_
      rw [Out.bind_ok, Out.bind_ok, Out.bind_ok]
      have hmem : s.2.1[r14.1.toNat] ∈ s.2.1 := List.getElem_mem _
      have hx := i5 _ hmem
      have hsub : ∀ y, y ∈ s.2.1.eraseIdx r14.1.toNat → y ∈ s.2.1 := fun y hy => List.mem_of_mem_eraseIdx hy
      refine Out.yes_ok ⟨?_, List.mem_append_left _ i2, fun y hy => ?_, ?_, fun y hy => ?_, by rw [List.length_append]; simp, by rw [List.length_append]; simp; omega, fun _ => by rw [List.length_append]; simp; omega, fun z => by simp at z, ?_⟩
      · rw [List.nodup_append]
        exact ⟨i1, by simp, fun a ha b hb => by rw [List.mem_singleton] at hb; subst hb; rintro rfl; exact hx.2.2 ha⟩
      · rcases List.mem_append.mp hy with hy | hy
        · exact i3 y hy
        · rw [List.mem_singleton] at hy; subst hy; omega
      · exact i4.sublist (List.eraseIdx_sublist _ _)
      · have hy' := i5 y (hsub y hy)
        refine ⟨hy'.1, hy'.2.1, fun z => ?_⟩
        rcases List.mem_append.mp z with z | z
        · exact hy'.2.2 z
        · rw [List.mem_singleton] at z
          subst z
          rw [List.mem_eraseIdx_iff_getElem?] at hy
          obtain ⟨j, hj, hget⟩ := hy
          have := (List.pairwise_iff_getElem.mp i4)
          obtain ⟨hjl, hje⟩ := List.getElem?_eq_some_iff.mp hget
          rcases Nat.lt_or_gt_of_ne hj with q | q
          · exact this j r14.1.toNat hjl hlt q hje
          · exact this r14.1.toNat j hlt hjl q hje.symm
      · rw [List.length_eraseIdx]; split <;> omega
  · obtain ⟨i1, i2, i3, i4, i5, i6, i7, i8, i9, i10⟩ := hs
    have hl : (rgI 0 ((1 : Int) + r9.1)).length = (1 + r9.1).toNat := by rw [rgI_length]; omega
    refine ⟨i1, i2, i3, i8 ?_, by omega⟩
    rw [rgI_cons (by omega)]; simp
  · obtain ⟨i1, i2, i3, i4, i5⟩ := hs
    refine Out.yes_ok ⟨isort_lt i1, ?_, by rw [isort_length]; exact i4, by rw [isort_length]; exact i5, fun m hm => (i3 m (mem_isort.mp hm)).2⟩
    have hlt := isort_lt i1
    cases e : isort s.1 with
    | nil => have : (isort s.1).length = 0 := by rw [e]; rfl
             rw [isort_length] at this; omega
    | cons a t =>
      have h0 : (0 : Int) ∈ a :: t := by rw [← e]; exact mem_isort.mpr i2
      have ha : a ∈ s.1 := mem_isort.mp (by rw [e]; simp)
      rw [e] at hlt
      rcases List.mem_cons.mp h0 with z | z
      · rw [← z]; rfl
      · have := (List.pairwise_cons.mp hlt).1 0 z
        have := i3 a ha
        omega
/-- a drawn ruler -/
structure LRul (most length : Int) (r : Rul) : Prop where
  ok : RulOk r
  few : (r.marks.length : Int) ≤ most
  short : ∀ m, m ∈ r.marks → m ≤ length
  e3 : r.error ≤ 3
theorem ruler_yes {most length : Int} (h1 : 2 ≤ most) (h2 : most ≤ 12) (h3 : 1 ≤ length) (h4 : length ≤ 300) (bx : Bx) : (m_law_ruler most length bx).yes fun r => LRul most length r.1 := by
  unfold m_law_ruler
  refine Out.yes_bind (marks_yes h1 h2 h3 h4 bx) fun r3 ⟨i1, i2, i3, i4, i5⟩ => ?_
  refine Out.yes_bind (take_yes (by omega) (by omega) _) fun r4 h4 => ?_
  have hok : RulOk ⟨r4.1, r3.1⟩ := ⟨i1, i2, i3, by dsimp only; omega, fun m hm => by have := i5 m hm; omega, h4.1, by dsimp only; omega⟩
  rw [mk_Ruler_ok hok, Out.bind_ok]
  exact Out.yes_ok ⟨hok, i4, i5, by dsimp only; omega⟩
def names7 : List S := [z_ash, z_b, z_cane, z_elm, z_fir, z_oak, z_yew]
theorem names7_ok : ∀ n, n ∈ names7 → m_is_name n = .ok true := by
  intro n hn
  unfold names7 at hn
  simp only [List.mem_cons, List.not_mem_nil, or_false] at hn
  rcases hn with rfl | rfl | rfl | rfl | rfl | rfl | rfl <;> with_unfolding_all rfl
/-- a drawn rack -/
structure LRak (many most length : Int) (r : Rak) : Prop where
  ok : RakOk r
  ru : ∀ p, p ∈ r.held → LRul most length p.2
  few : (r.held.length : Int) ≤ many
  nm : ∀ p, p ∈ r.held → p.1 ∈ names7
theorem rack_yes {many most length : Int} (h0 : 1 ≤ many) (h0' : many ≤ 6) (h1 : 2 ≤ most) (h2 : most ≤ 12) (h3 : 1 ≤ length) (h4 : length ≤ 300) (bx : Bx) : (m_law_rack many most length bx).yes fun r => LRak many most length r.1 := by
  unfold m_law_rack
  refine Out.yes_let (Out.yes_bind (take_yes (by omega) (by omega) _) fun r8 h8 => ?_)
  refine Out.yes_guard (by constructor <;> omega) ?_
  refine Out.yes_bind (Out.fold_yes (fun (pre : List Int) (s : List (S × Rul) × Bx) => (keys s.1).Nodup ∧ (s.1.length : Int) ≤ many ∧ (pre ≠ [] → s.1 ≠ []) ∧ ∀ p, p ∈ s.1 → p.1 ∈ names7 ∧ LRul most length p.2) _ _ ⟨by simp, by simp; omega, fun z => absurd rfl z, fun p hp => by cases hp⟩ fun pre x post s hp hI => ?_) fun s hs => ?_
  · obtain ⟨i1, i2, i3, i4⟩ := hI
    refine Out.yes_bind (take_yes (by omega) (by omega) _) fun r10 h10 => ?_
    obtain ⟨n, hn, hm⟩ := pix_some (xs := [z_ash, z_b, z_cane, z_elm, z_fir, z_oak, z_yew]) h10.1 (by simp; omega)
    refine Out.yes_get hn ?_
    by_cases hc : (dhas s.1 n || decide ((s.1.length : Int) < many)) = true
    · rw [if_pos hc, Out.bind_assoc]
      refine Out.yes_bind (ruler_yes h1 h2 h3 h4 _) fun r13 h13 => ?_
      rw [Out.bind_assoc]
      refine Out.yes_guard (by show _ < 16777216; omega) ?_
      rw [Out.bind_ok, Out.bind_ok]
      refine Out.yes_ok ⟨dput_nodup i1, ?_, fun _ => ?_, fun p hp => ?_⟩
      · have hl : (dput s.1 n r13.1).length = (keys (dput s.1 n r13.1)).length := by unfold keys; rw [List.length_map]
        rw [hl, keys_dput]
        split
        · unfold keys; rw [List.length_map]; exact i2
        · rename_i hk
          rw [dhas_false.mpr hk, Bool.false_or, decide_eq_true_eq] at hc
          rw [List.length_append]; unfold keys; rw [List.length_map]; simp; omega
      · intro z
        have : n ∈ keys (dput s.1 n r13.1) := mem_keys_dput.mpr (.inl rfl)
        dsimp only at z
        rw [z] at this; cases this
      · have hg := dget_of_mem (dput_nodup (k := n) (v := r13.1) i1) (show (p.1, p.2) ∈ dput s.1 n r13.1 from hp)
        rw [dget_dput] at hg
        by_cases e : p.1 = n
        · rw [if_pos e] at hg
          have hg := Option.some.inj hg
          exact ⟨e ▸ hm, hg ▸ h13⟩
        · rw [if_neg e] at hg
          exact i4 p (dget_mem hg)
    · rw [if_neg hc, Out.bind_ok]
      refine Out.yes_ok ⟨i1, i2, fun _ z => hc ?_, i4⟩
      dsimp only at z
      rw [z]; simp; omega
  · obtain ⟨i1, i2, i3, i4⟩ := hs
    have hne : s.1 ≠ [] := i3 (by rw [rgI_cons (by omega)]; simp)
    refine Out.yes_bind (mk_Rack_ok (fun p hp => names7_ok _ (i4 p hp).1) i1 hne (by omega) fun p hp => (i4 p hp).2.ok) fun r ⟨k1, k2, k3, k4⟩ => ?_
    exact Out.yes_ok ⟨k1, fun p hp => (i4 p ((k3 p).mp hp)).2, by dsimp only; rw [k4]; exact i2, fun p hp => (i4 p ((k3 p).mp hp)).1⟩
theorem valid_ok {e : Int} {ps : List Int} (h1 : 1 ≤ e) (h2 : e ≤ 200) (h : ∀ p, p ∈ ps → 0 ≤ p ∧ p ≤ e) : m_validate_places e ps = .ok () := by
  apply Out.yes.eq
  unfold m_validate_places
  refine Out.yes_ifF (by rw [isnum_t h1 h2]; rfl) ?_
  refine Out.yes_bind (R := fun _ => True) (Out.fold_yes (fun _ _ => True) _ _ trivial fun pre x post s hp _ => ?_) fun _ _ => Out.yes_ok rfl
  have hx := h x (by rw [hp]; simp)
  exact Out.yes_ifF (by rw [isnum_t hx.1 hx.2]; rfl) (Out.yes_ok trivial)
theorem mem_next {ss : List (S × Int)} {e p : Int} {q : (S × Int) × Int} : q ∈ m_next_places ss e p ↔ q.1 ∈ ss ∧ q.2 = p + q.1.2 ∧ 0 ≤ q.2 ∧ q.2 ≤ e := by
  unfold m_next_places
  rw [List.mem_map]
  constructor
  · rintro ⟨st, h1, rfl⟩
    rw [List.mem_filter] at h1
    obtain ⟨h1, h2⟩ := h1
    simp at h2
    exact ⟨h1, rfl, h2.1, h2.2⟩
  · rintro ⟨h1, h2, h3, h4⟩
    refine ⟨q.1, List.mem_filter.mpr ⟨h1, by rw [← h2]; simp [h3, h4]⟩, ?_⟩
    rw [← h2]
theorem RakOk.step {r : Rak} (h : RakOk r) {st : S × Int} (hs : st ∈ stepsL r) : st.2 ≠ 0 ∧ -300 ≤ st.2 ∧ st.2 ≤ 300 := by
  rw [mem_stepsL] at hs
  obtain ⟨p, h1, h2, h3 | h3⟩ := hs
  · have := (h.ru p h1).span h3; omega
  · have := (h.ru p h1).span h3; omega
theorem stepsU_nodup : ∀ {hs : List (S × Rul)}, (keys hs).Nodup → (∀ p, p ∈ hs → RulOk p.2) → (stepsU hs).Nodup
  | [], _, _ => by simp [stepsU]
  | p :: hs, hn, hr => by
    have ih := stepsU_nodup (List.nodup_cons.mp hn).2 fun q hq => hr q (List.mem_cons_of_mem _ hq)
    have hp := hr p List.mem_cons_self
    unfold stepsU at ih ⊢
    rw [List.flatMap_cons, List.nodup_append]
    refine ⟨?_, ih, fun a ha b hb => ?_⟩
    · rw [List.nodup_append]
      have hs := nodup_of_lt (spansL_lt p.2.marks)
      refine ⟨?_, ?_, fun a ha b hb => ?_⟩
      · unfold List.Nodup; rw [List.pairwise_map]; exact hs.imp fun h z => h (by have := congrArg Prod.snd z; dsimp only at this; omega)
      · unfold List.Nodup; rw [List.pairwise_map]; exact hs.imp fun h z => h (congrArg Prod.snd z)
      · rw [List.mem_map] at ha hb
        obtain ⟨x, hx, rfl⟩ := ha
        obtain ⟨y, hy, rfl⟩ := hb
        intro z
        have h1 := hp.span hx
        have h2 := hp.span hy
        have := congrArg Prod.snd z
        dsimp only at this
        omega
    · intro z
      have hk : p.1 ∉ keys hs := (List.nodup_cons.mp hn).1
      have ha1 : a.1 = p.1 := by
        rcases List.mem_append.mp ha with ha | ha <;> rw [List.mem_map] at ha <;> obtain ⟨x, _, rfl⟩ := ha <;> rfl
      rw [List.mem_flatMap] at hb
      obtain ⟨q, hq, hb⟩ := hb
      have hb1 : b.1 = q.1 := by
        rcases List.mem_append.mp hb with hb | hb <;> rw [List.mem_map] at hb <;> obtain ⟨x, _, rfl⟩ := hb <;> rfl
      apply hk
      rw [← ha1, z, hb1]
      exact List.mem_map.mpr ⟨q, hq, rfl⟩
def nbrR (r : Rak) (m : Int) (p : Int) : List Int := (stepsL r).map fun st => (p + st.2) % m
theorem law_spans_ok {ms : List Int} (hl : ms.length ≤ 1000) : m_law_spans ms = .ok (isort (spreadL ms)) := by
  unfold m_law_spans
  rw [Out.bind_ok, Out.bind_guard (by constructor <;> omega)]
  have key : ∀ (xs pre : List Int) (s : List Int), ms = pre ++ xs → s.length + (spreadL xs).length ≤ 1000000 → Out.fold (σ := List Int) (fun s3 (x5 : Int) =>
      (Out.compS (fun (s10 : Unit) (x8 : Int) =>
      (Out.get (pix ms x5)).bind fun x12 =>
      Out.ok (some (x8 - x12), ())) (pcut ms (some (x5 + (1 : Int))) none) [] ()).bind fun l11 =>
      (Out.guard ((s3).length + (l11.1).length ≤ LIM)).bind fun _ =>
      (Out.ok (s3 ++ l11.1)).bind fun found14 =>
      Out.ok found14) (rgI (pre.length : Int) (ms.length : Int)) s = .ok (s ++ spreadL xs) := by
    intro xs
    induction xs with
    | nil =>
      intro pre s e _
      rw [e, List.append_nil, rgI_nil (Int.le_refl _), Out.fold_nil]; unfold spreadL; rw [List.append_nil]
    | cons x xs ih =>
      intro pre s e hs
      have hlen : ms.length = pre.length + (xs.length + 1) := by rw [e, List.length_append, List.length_cons]
      rw [rgI_cons (by omega), Out.fold_cons]
      have hc : pcut ms (some ((pre.length : Int) + 1)) none = xs := by
        rw [show (pre.length : Int) + 1 = ((pre.length + 1 : Nat) : Int) by omega, pcut_from, e]
        rw [show pre ++ x :: xs = (pre ++ [x]) ++ xs by simp, List.drop_left' (by simp)]
      have hx : pix ms (pre.length : Int) = some x := pix_nat (by rw [e]; simp)
      rw [hc, Out.compS_unit (o := fun y => some (y - x)) _ _ fun y _ => by rw [Out.bind_get hx]]
      rw [Out.bind_ok, List.nil_append, show (xs.filterMap fun y => some (y - x)) = xs.map fun y => y - x by rw [← List.filterMap_eq_map]; rfl]
      unfold spreadL at hs ⊢
      rw [List.length_append, List.length_map] at hs
      rw [Out.bind_guard (by rw [List.length_map]; show _ ≤ 16777216; omega), Out.bind_ok, Out.bind_ok]
      have := ih (pre ++ [x]) (s ++ xs.map (fun y => y - x)) (by rw [e]; simp) (by rw [List.length_append, List.length_map]; omega)
      rw [show ((pre ++ [x]).length : Int) = (pre.length : Int) + 1 by simp] at this
      rw [this, List.append_assoc]
  have hq := spreadL_len ms
  have hb : ms.length * ms.length ≤ 1000 * 1000 := Nat.mul_le_mul hl hl
  have := key ms [] [] rfl (by rw [List.length_nil]; omega)
  rw [show (0 : Int) = (([] : List Int).length : Int) from rfl, this, List.nil_append, Out.bind_ok]
theorem law_different_spans (ms : List Int) : m_law_different (isort (spreadL ms)) = spansL ms := rfl
theorem law_steps_ok {r : Rak} (h : RakOk r) : m_law_steps r = .ok (stepsL r) := by
  unfold m_law_steps
  rw [Out.bind_ok]
  have inner : ∀ (n : S) (sp : List Int) (s : List (S × Int)), s.length + 2 * sp.length ≤ 100000 → Out.fold (σ := List (S × Int)) (fun s8 (x10 : Int) =>
      (Out.guard ((s8).length + ([(n, x10), (n, (0 : Int) - x10)]).length ≤ LIM)).bind fun _ =>
      (Out.ok (s8 ++ [(n, x10), (n, (0 : Int) - x10)])).bind fun found17 =>
      Out.ok found17) sp s = .ok (s ++ sp.flatMap fun x => [(n, x), (n, 0 - x)]) := by
    intro n sp
    induction sp with
    | nil => intro s _; rw [Out.fold_nil]; simp
    | cons x sp ih =>
      intro s hl
      rw [List.length_cons] at hl
      rw [Out.fold_cons, Out.bind_guard (by show _ ≤ 16777216; simp; omega), Out.bind_ok, Out.bind_ok, ih _ (by rw [List.length_append]; simp; omega), List.flatMap_cons, List.append_assoc]
  have key : ∀ (hs : List (S × Rul)) (s : List (S × Int)), (∀ p, p ∈ hs → p ∈ r.held) → s.length + 300 * hs.length ≤ 10000 → ∃ out, Out.fold (σ := List (S × Int)) (fun s3 (x5 : S) =>
      ((m_Rack___getitem r x5).nox).bind fun r11 =>
      (m_law_spans (m_Ruler_marks r11)).bind fun r13 =>
      (Out.fold (σ := List ((S × Int))) (fun s8 (x10 : Int) =>
      (Out.guard ((s8).length + ([(x5, x10), (x5, (0 : Int) - x10)]).length ≤ LIM)).bind fun _ =>
      (Out.ok (s8 ++ [(x5, x10), (x5, (0 : Int) - x10)])).bind fun found17 =>
      Out.ok found17) (m_law_different r13) s3).bind fun s9 =>
      Out.ok s9) (keys hs) s = .ok (s ++ out) ∧ out.Perm (stepsU hs) := by
    intro hs
    induction hs with
    | nil => intro s _ _; exact ⟨[], by rw [show keys ([] : List (S × Rul)) = [] from rfl, Out.fold_nil, List.append_nil], by unfold stepsU; simp⟩
    | cons p hs ih =>
      intro s hm hl
      have hp := hm p List.mem_cons_self
      have hr := h.ru p hp
      have h12 := hr.hi
      have hsl := spansL_len p.2.marks
      have h144 : p.2.marks.length * p.2.marks.length ≤ 12 * 12 := Nat.mul_le_mul h12 h12
      rw [List.length_cons] at hl
      have hfl : ∀ sp : List Int, (sp.flatMap fun x => [(p.1, x), (p.1, (0 : Int) - x)]).length = 2 * sp.length := by
        intro sp
        induction sp with
        | nil => rfl
        | cons x sp ih => rw [List.flatMap_cons, List.length_append, ih, List.length_cons]; simp; omega
      obtain ⟨out, o1, o2⟩ := ih (s ++ (spansL p.2.marks).flatMap fun x => [(p.1, x), (p.1, 0 - x)]) (fun q hq => hm q (List.mem_cons_of_mem _ hq)) (by rw [List.length_append, hfl]; omega)
      refine ⟨((spansL p.2.marks).flatMap fun x => [(p.1, x), (p.1, 0 - x)]) ++ out, ?_, ?_⟩
      · show Out.fold _ (p.1 :: keys hs) s = _
        rw [Out.fold_cons, item_ok (dget_of_mem h.nd (show (p.1, p.2) ∈ r.held from hp)), Out.nox_ok, Out.bind_ok]
        rw [show m_Ruler_marks p.2 = p.2.marks from rfl, law_spans_ok (by omega), Out.bind_ok, law_different_spans]
        rw [inner p.1 (spansL p.2.marks) s (by omega), Out.bind_ok, Out.bind_ok, o1, List.append_assoc]
      · unfold stepsU at o2 ⊢
        rw [List.flatMap_cons]
        refine List.Perm.append ?_ o2
        have : ∀ sp : List Int, (sp.flatMap fun x => [(p.1, x), (p.1, (0 : Int) - x)]).Perm (sp.map (fun x => (p.1, (0 : Int) - x)) ++ sp.map (fun x => (p.1, x))) := by
          intro sp
          induction sp with
          | nil => exact List.Perm.refl _
          | cons x sp ih =>
            rw [List.flatMap_cons, List.map_cons, List.map_cons]
            refine (List.Perm.append_left _ ih).trans ?_
            show ((p.1, x) :: (p.1, (0 : Int) - x) :: _).Perm _
            refine (List.Perm.swap _ _ _).trans ?_
            rw [List.cons_append]
            refine List.Perm.cons _ ?_
            have e := (List.perm_middle (a := (p.1, x)) (l₁ := sp.map fun x => (p.1, (0 : Int) - x)) (l₂ := sp.map fun x => (p.1, x))).symm
            exact e
        exact this _
  have hle := h.le
  obtain ⟨out, o1, o2⟩ := key r.held [] (fun p hp => hp) (by rw [List.length_nil]; omega)
  rw [show m_Rack_names r = keys r.held from rfl, o1, List.nil_append, Out.bind_ok]
  congr 1
  unfold stepsL
  exact psort_of ((psort_perm out).trans o2) (psort_sorted out)
/-- the fewest times t with t steps = d on a ring -/
def IsTimes (m s d t : Int) : Prop := 0 ≤ t ∧ t < m / ((Nat.gcd m.toNat s.toNat : Nat) : Int) ∧ m ∣ t * s - d
theorem IsTimes.uniq {m s d t u : Int} (hm : 0 < m) (hs : 0 ≤ s) (h : IsTimes m s d t) (k : IsTimes m s d u) : t = u := by
  have hcop := Nat.coprime_div_gcd_div_gcd (m := m.toNat) (n := s.toNat) (Nat.gcd_pos_of_pos_left _ (by omega))
  have g0 : 0 < Nat.gcd m.toNat s.toNat := Nat.gcd_pos_of_pos_left _ (by omega)
  have gm := Nat.gcd_dvd_left m.toNat s.toNat
  have gs := Nat.gcd_dvd_right m.toNat s.toNat
  have e1 : m / ((Nat.gcd m.toNat s.toNat : Nat) : Int) = ((m.toNat / Nat.gcd m.toNat s.toNat : Nat) : Int) := by
    rw [Int.natCast_ediv, Int.toNat_of_nonneg (by omega)]
  have e2 : s / ((Nat.gcd m.toNat s.toNat : Nat) : Int) = ((s.toNat / Nat.gcd m.toNat s.toNat : Nat) : Int) := by
    rw [Int.natCast_ediv, Int.toNat_of_nonneg hs]
  obtain ⟨x, y, hxy⟩ := bezout (m.toNat / Nat.gcd m.toNat s.toNat) (s.toNat / Nat.gcd m.toNat s.toNat)
  rw [show Nat.gcd (m.toNat / Nat.gcd m.toNat s.toNat) (s.toNat / Nat.gcd m.toNat s.toNat) = 1 from hcop] at hxy
  refine times_uniq (s := s) (g := ((Nat.gcd m.toNat s.toNat : Nat) : Int)) (size := m / ((Nat.gcd m.toNat s.toNat : Nat) : Int)) hm ?_ ?_ ⟨y, -x, ?_⟩ (by omega) h.1 h.2.1 k.1 k.2.1 ?_
  · rw [Int.mul_ediv_cancel']
    have := Int.natCast_dvd_natCast.mpr gm; rwa [Int.toNat_of_nonneg (by omega)] at this
  · have := Int.natCast_dvd_natCast.mpr gs; rwa [Int.toNat_of_nonneg hs] at this
  · rw [e1, e2, Int.mul_neg]
    have : ((1 : Nat) : Int) = 1 := rfl
    omega
  · have := Int.dvd_sub h.2.2 k.2.2
    rwa [show t * s - d - (u * s - d) = t * s - u * s by omega] at this
def TimesIs (m s d : Int) (o : Option Int) : Prop := match o with
  | none => ∀ t, ¬ m ∣ t * s - d
  | some t => IsTimes m s d t
theorem TimesIs.uniq {m s d : Int} (hm : 0 < m) (hs : 0 ≤ s) {o p : Option Int} (h : TimesIs m s d o) (k : TimesIs m s d p) : o = p := by
  cases o with
  | none =>
    cases p with
    | none => rfl
    | some t => exact absurd k.2.2 (h t)
  | some t =>
    cases p with
    | none => exact absurd h.2.2 (k t)
    | some u => rw [IsTimes.uniq hm hs h k]
/-- the way of a row up to a place -/
def upTo (row : List (S × Int)) (i : Nat) : Int := ((row.take (i + 1)).map (·.2)).sum
/-- the place behind the laying of a number -/
def plOf (row : List (S × Int)) (m : Int) (k : Nat) : Int := (((k / row.length : Nat) : Int) * (row.map (·.2)).sum + upTo row (k % row.length)) % m
def FirstAt (row : List (S × Int)) (m p : Int) (k : Nat) : Prop := plOf row m k = p ∧ ∀ j, j < k → plOf row m j ≠ p
theorem FirstAt.uniq {row : List (S × Int)} {m p : Int} {j k : Nat} (h : FirstAt row m p j) (g : FirstAt row m p k) : j = k := by
  rcases Nat.lt_trichotomy j k with z | z | z
  · exact absurd h.1 (g.2 j z)
  · exact z
  · exact absurd g.1 (h.2 k z)
def nxR (m : Int) (p : Int) (st : S × Int) : Int := (p + st.2) % m
def rle : List Nat → List Nat → Prop
  | [], [] => True
  | a :: as, b :: bs => a < b ∨ (a = b ∧ rle as bs)
  | _, _ => False
theorem rle_antisymm : ∀ {x y : List Nat}, rle x y → rle y x → x = y
  | [], [], _, _ => rfl
  | [], _ :: _, h, _ => h.elim
  | _ :: _, [], h, _ => h.elim
  | a :: as, b :: bs, h1, h2 => by
    rcases h1 with h1 | ⟨h1, k1⟩
    · rcases h2 with h2 | ⟨h2, k2⟩ <;> omega
    · rcases h2 with h2 | ⟨h2, k2⟩
      · omega
      · rw [h1, rle_antisymm k1 k2]
def keyW (steps : List (S × Int)) (w : List (S × Int)) : List Nat := w.map fun l => steps.idxOf l
theorem keyW_inj {steps : List (S × Int)} : ∀ {w v : List (S × Int)}, (∀ l, l ∈ w → l ∈ steps) → (∀ l, l ∈ v → l ∈ steps) → keyW steps w = keyW steps v → w = v
  | [], [], _, _, _ => rfl
  | [], _ :: _, _, _, h => by cases h
  | _ :: _, [], _, _, h => by cases h
  | a :: as, b :: bs, h1, h2, h => by
    unfold keyW at h
    rw [List.map_cons, List.map_cons] at h
    injection h with e1 e2
    have ha := List.idxOf_lt_length_of_mem (h1 a List.mem_cons_self)
    have hb := List.idxOf_lt_length_of_mem (h2 b List.mem_cons_self)
    have hab : a = b := by
      rw [← List.getElem_idxOf ha, ← List.getElem_idxOf hb]
      simp only [e1]
    rw [hab, keyW_inj (fun l hl => h1 l (List.mem_cons_of_mem _ hl)) (fun l hl => h2 l (List.mem_cons_of_mem _ hl)) e2]
/-- rows from one place to another -/
def RowTo (r : Rak) (m q : Int) (w : List (S × Int)) (p : Int) : Prop := (∀ l, l ∈ w → l ∈ stepsL r) ∧ w.foldl (nxR m) q = p
theorem RowTo.cons {r : Rak} {m q p : Int} {l : S × Int} {w : List (S × Int)} : RowTo r m q (l :: w) p ↔ l ∈ stepsL r ∧ RowTo r m (nxR m q l) w p := by
  unfold RowTo
  constructor
  · rintro ⟨h1, h2⟩
    exact ⟨h1 l List.mem_cons_self, fun x hx => h1 x (List.mem_cons_of_mem _ hx), h2⟩
  · rintro ⟨h1, h2, h3⟩
    exact ⟨fun x hx => (List.mem_cons.mp hx).elim (fun e => e ▸ h1) (h2 x), h3⟩
theorem RowTo.snoc {r : Rak} {m q p : Int} {l : S × Int} {w : List (S × Int)} (h : RowTo r m q w p) (hl : l ∈ stepsL r) : RowTo r m q (w ++ [l]) (nxR m p l) :=
  ⟨fun x hx => (List.mem_append.mp hx).elim (h.1 x) (fun hx => by rw [List.mem_singleton] at hx; rw [hx]; exact hl), by rw [List.foldl_append, h.2]; rfl⟩
/-- the least one of the shortest rows -/
structure Best (r : Rak) (m q p : Int) (k : Nat) (w : List (S × Int)) : Prop where
  dst : Dst (nbrR r m) q k p
  len : w.length = k
  row : RowTo r m q w p
  min : ∀ v, RowTo r m q v p → v.length = k → rle (keyW (stepsL r) w) (keyW (stepsL r) v)
theorem Best.uniq {r : Rak} {m q p : Int} {j k : Nat} {w v : List (S × Int)} (h : Best r m q p j w) (g : Best r m q p k v) : w = v ∧ j = k := by
  have e : j = k := h.dst.uniq g.dst
  subst e
  exact ⟨keyW_inj h.row.1 g.row.1 (rle_antisymm (h.min v g.row g.len) (g.min w h.row h.len)), rfl⟩
/-- how many rows of n layings lead from a place to g -/
def cntB (r : Rak) (e g : Int) : Nat → Int → Int
  | 0, x => if x = g then 1 else 0
  | n + 1, x => ((m_next_places (stepsL r) e x).map fun q => cntB r e g n q.2).sum
theorem sum_nonneg : ∀ {xs : List Int}, (∀ x, x ∈ xs → 0 ≤ x) → 0 ≤ xs.sum
  | [], _ => by simp
  | x :: xs, h => by
    have := sum_nonneg fun y hy => h y (List.mem_cons_of_mem _ hy)
    have := h x List.mem_cons_self
    rw [List.sum_cons]; omega
theorem cntB_nn {r : Rak} {e g : Int} : ∀ (n : Nat) (x : Int), 0 ≤ cntB r e g n x
  | 0, x => by unfold cntB; split <;> omega
  | n + 1, x => by
    unfold cntB
    apply sum_nonneg
    intro y hy
    rw [List.mem_map] at hy
    obtain ⟨q, _, rfl⟩ := hy
    exact cntB_nn n q.2
def TabIs (r : Rak) (e g : Int) (n : Nat) (t : List (Int × Int)) : Prop := ∀ x, 0 ≤ x → x ≤ e → (dget t x).getD 0 = cntB r e g n x
theorem tables_yes {r : Rak} (h : RakOk r) {e g n : Int} (he : e ≤ 200) (he1 : 1 ≤ e) (n0 : 0 ≤ n) (n60 : n ≤ 60) : (m_count_tables r e g n).yes fun ts => ts.length = n.toNat + 1 ∧ ∀ (i : Nat) (t : List (Int × Int)), ts[i]? = some t → TabIs r e g i t := by
  unfold m_count_tables
  rw [steps_ok h, Out.nox_ok, Out.bind_ok, Out.bind_ok, Out.bind_ok, Out.bind_guard (by constructor <;> omega)]
  refine Out.yes_bind (Out.fold_yes (fun (pre : List Int) (s : List (List (Int × Int))) => s.length = pre.length + 1 ∧ ∀ (i : Nat) (t : List (Int × Int)), s[i]? = some t → TabIs r e g i t) _ _ ⟨rfl, fun i t ht => ?_⟩ fun pre x post s hp hI => ?_) fun s hs => Out.yes_ok ⟨by rw [hs.1, rgI_length]; omega, hs.2⟩
  · cases i with
    | zero =>
      cases ht
      intro x _ _
      rw [show dmk [(g, (1 : Int))] = [(g, 1)] from rfl]
      unfold dget cntB
      rw [List.find?_cons]
      by_cases z : g = x
      · rw [show decide ((g, (1 : Int)).1 = x) = true by simp [z], if_pos z.symm]; rfl
      · rw [show decide ((g, (1 : Int)).1 = x) = false by simp [z], if_neg (fun w => z w.symm)]; rfl
    | succ i => simp at ht
  · obtain ⟨i1, i2⟩ := hI
    have hpl : pre.length ≤ 60 := by
      have hl : (rgI 0 n).length = pre.length + (post.length + 1) := by rw [hp]; simp
      rw [rgI_length] at hl; omega
    have hlast : s[pre.length]? = some (s[pre.length]'(by omega)) := List.getElem?_eq_getElem (by omega)
    have hT := i2 _ _ hlast
    have hpx : pix s (-1) = some (s[pre.length]'(by omega)) := pix_last (by rw [List.getLast?_eq_getElem?, show s.length - 1 = pre.length by omega]; exact hlast)
    generalize s[pre.length]'(by omega) = tl at hT hpx
    rw [Out.bind_ok, Out.bind_guard (by constructor <;> omega)]
    refine Out.yes_bind (Out.fold_yes (fun (p2 : List Int) (lt : List (Int × Int)) => lt.length ≤ p2.length ∧ ∀ x, (dget lt x).getD 0 = if x ∈ p2 then cntB r e g (pre.length + 1) x else 0) _ _ ⟨Nat.le_refl _, fun x => by simp [dget]⟩ fun p2 y q2 lt hp2 hJ => ?_) fun lt hlt => ?_
    · obtain ⟨j1, j2⟩ := hJ
      have hyr : y ∈ rgI 0 (e + 1) := by rw [hp2]; simp
      rw [mem_rgI] at hyr
      have hp2l : p2.length ≤ 201 := by
        have hl : (rgI 0 (e + 1)).length = p2.length + (q2.length + 1) := by rw [hp2]; simp
        rw [rgI_length] at hl; omega
      have hynew : y ∉ p2 := by
        have := nodup_of_lt (rgI_lt 0 (e + 1))
        rw [hp2, List.nodup_append] at this
        exact fun z => this.2.2 y z y (by simp) rfl
      rw [Out.compS_unit (o := fun q => some (cntB r e g pre.length q.2)) _ _ fun q hq => by
        rw [mem_next] at hq
        rw [Out.bind_get hpx, hT q.2 hq.2.2.1 hq.2.2.2]]
      rw [Out.bind_ok, List.nil_append, Out.bind_ok]
      have hsum : ((m_next_places (stepsL r) e y).filterMap fun q => some (cntB r e g pre.length q.2)).sum = cntB r e g (pre.length + 1) y := by
        rw [show ((m_next_places (stepsL r) e y).filterMap fun q => some (cntB r e g pre.length q.2)) = (m_next_places (stepsL r) e y).map fun q => cntB r e g pre.length q.2 by rw [← List.filterMap_eq_map]; rfl]
        rfl
      dsimp only
      rw [hsum]
      have hnn := cntB_nn (r := r) (e := e) (g := g) (pre.length + 1) y
      by_cases hpos : 0 < cntB r e g (pre.length + 1) y
      · rw [if_pos (by simpa using hpos), Out.bind_guard (by show _ < 16777216; omega), Out.bind_ok, Out.bind_ok]
        refine Out.yes_ok ⟨?_, fun x => ?_⟩
        · have := dput_len lt y (cntB r e g (pre.length + 1) y)
          rw [List.length_append]; simp; omega
        · rw [dget_dput]
          by_cases z : x = y
          · subst z; rw [if_pos rfl, if_pos (by simp)]; rfl
          · rw [if_neg z, j2 x]
            by_cases w : x ∈ p2
            · rw [if_pos w, if_pos (by simp [w])]
            · rw [if_neg w, if_neg (by simp [w, z])]
      · rw [if_neg (by simpa using hpos), Out.bind_ok]
        refine Out.yes_ok ⟨by rw [List.length_append]; simp; omega, fun x => ?_⟩
        rw [j2 x]
        by_cases z : x = y
        · subst z; rw [if_neg hynew, if_pos (by simp)]; omega
        · by_cases w : x ∈ p2
          · rw [if_pos w, if_pos (by simp [w])]
          · rw [if_neg w, if_neg (by simp [w, z])]
    · rw [Out.bind_guard (by show _ < 16777216; omega), Out.bind_ok]
      refine Out.yes_ok ⟨by rw [List.length_append, i1, List.length_append]; rfl, fun i t ht => ?_⟩
      rcases Nat.lt_or_ge i s.length with z | z
      · rw [List.getElem?_append_left z] at ht; exact i2 i t ht
      · rw [List.getElem?_append_right z] at ht
        have hi : i = s.length := by
          rcases Nat.eq_or_lt_of_le z with w | w
          · exact w.symm
          · rw [List.getElem?_eq_none (by simp; omega)] at ht; cases ht
        subst hi
        rw [Nat.sub_self] at ht
        cases ht
        intro x x0 x1
        rw [hlt.2 x, if_pos (mem_rgI.mpr ⟨x0, by omega⟩), i1]
theorem valid_rows_ok {e b g n : Int} (h1 : 1 ≤ e) (h2 : e ≤ 200) (hb : 0 ≤ b ∧ b ≤ e) (hg : 0 ≤ g ∧ g ≤ e) (n0 : 0 ≤ n) (n60 : n ≤ 60) : m_validate_rows e b g n = .ok () := by
  unfold m_validate_rows
  rw [valid_ok h1 h2 (fun p hp => by simp at hp; omega), Out.bind_ok, isnum_t n0 n60]; rfl
theorem row_count_ok {r : Rak} (h : RakOk r) {e b g n : Int} (h1 : 1 ≤ e) (h2 : e ≤ 200) (hb : 0 ≤ b ∧ b ≤ e) (hg : 0 ≤ g ∧ g ≤ e) (n0 : 0 ≤ n) (n60 : n ≤ 60) : m_row_count r e b g n = .ok (cntB r e g n.toNat b) := by
  unfold m_row_count
  rw [valid_rows_ok h1 h2 hb hg n0 n60, Out.bind_ok]
  obtain ⟨ts, e1, e2, e3⟩ := tables_yes h (g := g) h2 h1 n0 n60
  rw [e1, Out.bind_ok]
  have hlast : ts[n.toNat]? = some (ts[n.toNat]'(by omega)) := List.getElem?_eq_getElem (by omega)
  rw [Out.bind_get (pix_last (by rw [List.getLast?_eq_getElem?, show ts.length - 1 = n.toNat by omega]; exact hlast))]
  rw [e3 _ _ hlast b hb.1 hb.2]
/-- the first one of some rows whose number is reached -/
def pickR (c : Int → Int) : List ((S × Int) × Int) → Int → Option (((S × Int) × Int) × Int)
  | [], _ => none
  | q :: qs, l => if c q.2 ≤ l then pickR c qs (l - c q.2) else some (q, l)
theorem pickR_some {c : Int → Int} (hc : ∀ x, 0 ≤ c x) : ∀ {L : List ((S × Int) × Int)} {l : Int}, 0 ≤ l → l < (L.map fun q => c q.2).sum → ∃ q l' pre post, L = pre ++ q :: post ∧ pickR c L l = some (q, l') ∧ l = (pre.map fun q => c q.2).sum + l' ∧ 0 ≤ l' ∧ l' < c q.2
  | [], l, h0, h1 => by simp at h1; omega
  | q :: L, l, h0, h1 => by
    unfold pickR
    by_cases z : c q.2 ≤ l
    · rw [List.map_cons, List.sum_cons] at h1
      obtain ⟨p, l', pre, post, e1, e2, e3, e4, e5⟩ := pickR_some hc (L := L) (l := l - c q.2) (by omega) (by omega)
      exact ⟨p, l', q :: pre, post, by rw [e1]; rfl, by rw [if_pos z]; exact e2, by rw [List.map_cons, List.sum_cons]; omega, e4, e5⟩
    · exact ⟨q, l, [], L, rfl, by rw [if_neg z], by simp, h0, by omega⟩
theorem pickR_at {c : Int → Int} (hc : ∀ x, 0 ≤ c x) : ∀ (pre : List ((S × Int) × Int)) (q : (S × Int) × Int) (post : List ((S × Int) × Int)) (l : Int), 0 ≤ l → l < c q.2 → pickR c (pre ++ q :: post) ((pre.map fun q => c q.2).sum + l) = some (q, l)
  | [], q, post, l, h0, h1 => by
    rw [List.nil_append]; unfold pickR
    simp only [List.map_nil, List.sum_nil, Int.zero_add]
    rw [if_neg (by omega)]
  | p :: pre, q, post, l, h0, h1 => by
    rw [List.cons_append]; unfold pickR
    have hs := sum_nonneg (xs := pre.map fun q => c q.2) fun x hx => by
      rw [List.mem_map] at hx; obtain ⟨w, _, rfl⟩ := hx; exact hc _
    rw [List.map_cons, List.sum_cons, if_pos (by omega), show c p.2 + (pre.map fun q => c q.2).sum + l - c p.2 = (pre.map fun q => c q.2).sum + l by omega]
    exact pickR_at hc pre q post l h0 h1
/-- the row with a number -/
def rowAt (r : Rak) (e g : Int) : Nat → Int → Int → List (S × Int)
  | 0, _, _ => []
  | n + 1, x, l => match pickR (cntB r e g n) (m_next_places (stepsL r) e x) l with
    | some p => p.1.1 :: rowAt r e g n p.1.2 p.2
    | none => []
theorem cntB_succ {r : Rak} {e g : Int} (n : Nat) (x : Int) : cntB r e g (n + 1) x = ((m_next_places (stepsL r) e x).map fun q => cntB r e g n q.2).sum := rfl
theorem rowAt_succ {r : Rak} {e g : Int} (n : Nat) (x l : Int) : rowAt r e g (n + 1) x l = match pickR (cntB r e g n) (m_next_places (stepsL r) e x) l with
    | some p => p.1.1 :: rowAt r e g n p.1.2 p.2
    | none => [] := rfl
theorem rgS_down (n : Nat) : rgS ((n : Int) - 1) (-1) (-1) = (List.range n).map fun i => ((n : Int) - 1 - (i : Nat)) := by
  unfold rgS
  have : (Builtin.Range.rangeSize ((n : Int) - 1) (-1) (-1)).toNat = n := by
    rw [PySem.W.rangeSize_downNat]; omega
  rw [this]
  apply List.map_congr_left
  intro i _
  omega
theorem whl_pick {c : Int → Int} : ∀ (L : List ((S × Int) × Int)) (l : Int) (N : Nat) (q : (S × Int) × Int) (l' : Int), L.length < N → L.length ≤ 100000 → pickR c L l = some (q, l') →
    (Out.whl (σ := Int × (List (((S × Int) × Int × Int)))) (fun s26 =>
    (Out.get (pix s26.2 (0 : Int))).bind fun x29 =>
    Out.ok (decide (x29.2.2 ≤ s26.1))) (fun s26 =>
    (Out.get (pix s26.2 (0 : Int))).bind fun x30 =>
    (Out.ok (s26.1 - x30.2.2)).bind fun left31 =>
    (Out.guard (0 ≤ (0 : Int))).bind fun _ =>
    (Out.get (s26.2[((0 : Int)).toNat]?)).bind fun x34 =>
    (Out.guard ((s26.2).length ≤ LIM)).bind fun _ =>
    (Out.ok (s26.2.eraseIdx ((0 : Int)).toNat)).bind fun rows36 =>
    Out.ok (left31, rows36)) N (l, L.map fun q => (q.1, q.2, c q.2))).yes fun s => s.1 = l' ∧ ∃ rest, s.2 = (q.1, q.2, c q.2) :: rest
  | [], l, N, q, l', _, _, h => by cases h
  | p :: L, l, N + 1, q, l', hN, hL, h => by
    unfold Out.whl
    have hp0 : ∀ xs : List ((S × Int) × Int × Int), pix ((p.1, p.2, c p.2) :: xs) 0 = some (p.1, p.2, c p.2) := fun xs => pix_nat (i := 0) rfl
    rw [List.map_cons]
    dsimp only
    rw [Out.bind_get (hp0 _), Out.bind_ok]
    unfold pickR at h
    by_cases z : c p.2 ≤ l
    · rw [if_pos z] at h
      rw [if_pos (by simpa using z), Out.bind_get (hp0 _), Out.bind_ok, Out.bind_guard (by omega), Out.bind_get (show ((p.1, p.2, c p.2) :: L.map fun q => (q.1, q.2, c q.2))[((0 : Int)).toNat]? = some (p.1, p.2, c p.2) from rfl)]
      rw [List.length_cons] at hN hL
      rw [Out.bind_guard (by rw [List.length_cons, List.length_map]; show _ ≤ 16777216; omega), Out.bind_ok, Out.bind_ok]
      exact whl_pick L (l - c p.2) N q l' (by omega) (by omega) h
    · rw [if_neg z] at h
      cases h
      rw [if_neg (by simpa using z)]
      exact Out.yes_ok ⟨rfl, _, rfl⟩
theorem next_len {ss : List (S × Int)} {e x : Int} : (m_next_places ss e x).length ≤ ss.length := by
  unfold m_next_places; rw [List.length_map]; exact List.length_filter_le _ _
theorem RakOk.steps_few2 {r : Rak} (hR : RakOk r) : (stepsL r).length ≤ 2000 := by
  unfold stepsL
  rw [(psort_perm _).length_eq]
  have : ∀ hs : List (S × Rul), (∀ p, p ∈ hs → RulOk p.2) → (stepsU hs).length ≤ 300 * hs.length := by
    intro hs
    induction hs with
    | nil => intro _; simp [stepsU]
    | cons p hs ih =>
      intro h
      have := ih fun q hq => h q (List.mem_cons_of_mem _ hq)
      unfold stepsU at this ⊢
      rw [List.flatMap_cons, List.length_append, List.length_append, List.length_map, List.length_map, List.length_cons]
      have h12 := (h p List.mem_cons_self).hi
      have hs2 := spansL_len p.2.marks
      have : p.2.marks.length * p.2.marks.length ≤ 12 * 12 := Nat.mul_le_mul h12 h12
      omega
  have h1 := this r.held hR.ru
  have := hR.le
  omega
theorem row_at_ok {r : Rak} (h : RakOk r) {e b g : Int} {n : Nat} {i : Int} (h1 : 1 ≤ e) (h2 : e ≤ 200) (hb : 0 ≤ b ∧ b ≤ e) (hg : 0 ≤ g ∧ g ≤ e) (n60 : n ≤ 60) (i0 : 0 ≤ i) (i1 : i < cntB r e g n b) : m_row_at r e b g (n : Int) i = .ok (rowAt r e g n b i) := by
  apply Out.yes.eq
  unfold m_row_at
  rw [valid_rows_ok h1 h2 hb hg (by omega) (by omega), Out.bind_ok]
  obtain ⟨ts, e1, e2, e3⟩ := tables_yes h (g := g) (n := (n : Int)) h2 h1 (by omega) (by omega)
  rw [e1, Out.bind_ok]
  rw [Int.toNat_natCast] at e2
  have hlast : ts[n]? = some (ts[n]'(by omega)) := List.getElem?_eq_getElem (by omega)
  rw [Out.bind_get (pix_last (by rw [List.getLast?_eq_getElem?, show ts.length - 1 = n by omega]; exact hlast))]
  rw [e3 _ _ hlast b hb.1 hb.2]
  refine Out.yes_ifF (by rw [isnum_t i0 (by omega)]; rfl) ?_
  rw [steps_ok h, Out.nox_ok, Out.bind_ok, Out.bind_ok, Out.bind_ok, Out.bind_ok, Out.bind_ok]
  have hrg : RgC ((n : Int) - 1) (-1) (-1) (Builtin.Range.rangeSize ((n : Int) - 1) (-1) (-1)).toNat := by
    rw [PySem.W.rangeSize_downNat, Int.toNat_natCast]
    exact RgC.neg (by omega) (by omega) (by decide) (by decide)
  rw [Out.bind_guard hrg, rgS_down]
  have hsl := h.steps_few2
  refine Out.yes_bind (Out.fold_yes (fun (pre : List Int) (s : Int × (List ((S × Int))) × Int) => 0 ≤ s.1 ∧ s.1 < cntB r e g (n - pre.length) s.2.2 ∧ 0 ≤ s.2.2 ∧ s.2.2 ≤ e ∧ s.2.1.length = pre.length ∧ s.2.1 ++ rowAt r e g (n - pre.length) s.2.2 s.1 = rowAt r e g n b i) _ _ ⟨i0, i1, hb.1, hb.2, rfl, rfl⟩ fun pre x post s hp hI => ?_) fun s hs => ?_
  · obtain ⟨j0, j1, j2, j3, j4, j5⟩ := hI
    have hlen : n = pre.length + (post.length + 1) := by
      have := congrArg List.length hp
      rw [List.length_map, List.length_range, List.length_append, List.length_cons] at this
      exact this
    have hx : x = ((n - pre.length - 1 : Nat) : Int) := by
      have h1 : ((List.range n).map fun i => ((n : Int) - 1 - (i : Nat)))[pre.length]? = some x := by rw [hp]; simp
      rw [List.getElem?_map, List.getElem?_range (by omega)] at h1
      have := Option.some.inj h1
      dsimp only at this
      omega
    obtain ⟨k, hk⟩ : ∃ k, n - pre.length = k + 1 := ⟨n - pre.length - 1, by omega⟩
    rw [hk] at j1 j5
    have hxk : x = (k : Int) := by omega
    have htab : ts[k]? = some (ts[k]'(by omega)) := List.getElem?_eq_getElem (by omega)
    have hT := e3 _ _ htab
    rw [Out.compS_unit (o := fun q => some (q.1, q.2, cntB r e g k q.2)) _ _ fun q hq => by
      rw [mem_next] at hq
      rw [hxk, Out.bind_get (pix_nat htab), hT q.2 hq.2.2.1 hq.2.2.2]]
    rw [Out.bind_ok, List.nil_append]
    dsimp only
    rw [show ((m_next_places (stepsL r) e s.2.2).filterMap fun q => some (q.1, q.2, cntB r e g k q.2)) = (m_next_places (stepsL r) e s.2.2).map fun q => (q.1, q.2, cntB r e g k q.2) by rw [← List.filterMap_eq_map]; rfl]
    rw [cntB_succ] at j1
    obtain ⟨q, l', pr, po, c1, c2, c3, c4, c5⟩ := pickR_some (cntB_nn k) j0 j1
    have hnl := next_len (ss := stepsL r) (e := e) (x := s.2.2)
    refine Out.yes_bind (whl_pick _ _ _ q l' (by omega) (by omega) c2) fun s27 ⟨d1, rest, d2⟩ => ?_
    have hq : q ∈ m_next_places (stepsL r) e s.2.2 := by rw [c1]; simp
    rw [mem_next] at hq
    have hpz : pix s27.2 0 = some (q.1, q.2, cntB r e g k q.2) := by rw [d2]; exact pix_nat (i := 0) rfl
    rw [Out.bind_get hpz, Out.bind_guard (by show _ < 16777216; omega), Out.bind_ok, Out.bind_get hpz]
    have hk2 : n - (pre ++ [x]).length = k := by rw [List.length_append]; simp; omega
    refine Out.yes_ok ⟨?_, ?_, hq.2.2.1, hq.2.2.2, by rw [List.length_append, List.length_append, j4]; rfl, ?_⟩
    · dsimp only; rw [d1]; exact c4
    · dsimp only; rw [d1, hk2]; exact c5
    · dsimp only
      rw [d1, hk2, ← j5, rowAt_succ, c2, List.append_assoc]; rfl
  · obtain ⟨j0, j1, j2, j3, j4, j5⟩ := hs
    rw [List.length_map, List.length_range, Nat.sub_self] at j5
    refine Out.yes_ok ?_
    rw [← j5]
    unfold rowAt
    rw [List.append_nil]
/-- a row that can be laid from x to g -/
def RowOk (r : Rak) (e g : Int) : List (S × Int) → Int → Prop
  | [], x => x = g
  | st :: row, x => (st, x + st.2) ∈ m_next_places (stepsL r) e x ∧ RowOk r e g row (x + st.2)
def rankB (r : Rak) (e g : Int) : List (S × Int) → Int → Int
  | [], _ => 0
  | st :: row, x => (((m_next_places (stepsL r) e x).filter fun q => ltC (eP eZ eI) q.1 st).map fun q => cntB r e g row.length q.2).sum + rankB r e g row (x + st.2)
theorem next_sorted {r : Rak} (h : RakOk r) (e x : Int) : (m_next_places (stepsL r) e x).Pairwise fun a b => ltC (eP eZ eI) a.1 b.1 = true := by
  unfold m_next_places
  rw [List.pairwise_map]
  exact (psort_lt (stepsU_nodup h.nd h.ru)).filter _
theorem filter_pre {r : Rak} (h : RakOk r) {e x : Int} {pre post : List ((S × Int) × Int)} {q : (S × Int) × Int} (hl : m_next_places (stepsL r) e x = pre ++ q :: post) : (m_next_places (stepsL r) e x).filter (fun p => ltC (eP eZ eI) p.1 q.1) = pre := by
  have hs := next_sorted h e x
  rw [hl, List.pairwise_append] at hs
  obtain ⟨_, s2, s3⟩ := hs
  rw [hl, List.filter_append, List.filter_cons_of_neg (by rw [ltC_irrefl]; simp)]
  rw [List.filter_eq_self.mpr fun p hp => s3 p hp q (by simp)]
  rw [List.filter_eq_nil_iff.mpr fun p hp => by rw [ltC_asymm ((List.pairwise_cons.mp s2).1 p hp)]; simp]
  rw [List.append_nil]
theorem rank_ok {r : Rak} (h : RakOk r) {e g : Int} : ∀ (row : List (S × Int)) (x : Int), RowOk r e g row x → 0 ≤ rankB r e g row x ∧ rankB r e g row x < cntB r e g row.length x ∧ rowAt r e g row.length x (rankB r e g row x) = row
  | [], x, hx => by
    have hx : x = g := hx
    refine ⟨by unfold rankB; omega, ?_, rfl⟩
    show 0 < cntB r e g 0 x
    unfold cntB
    rw [if_pos hx]; omega
  | st :: row, x, ⟨hm, hr⟩ => by
    obtain ⟨i0, i1, i2⟩ := rank_ok h row (x + st.2) hr
    obtain ⟨pre, post, hl⟩ := List.append_of_mem hm
    have hf := filter_pre h hl
    have hrank : rankB r e g (st :: row) x = (pre.map fun q => cntB r e g row.length q.2).sum + rankB r e g row (x + st.2) := by
      show (((m_next_places (stepsL r) e x).filter fun q => ltC (eP eZ eI) q.1 st).map fun q => cntB r e g row.length q.2).sum + _ = _
      rw [hf]
    have hnn : ∀ L : List ((S × Int) × Int), 0 ≤ (L.map fun q => cntB r e g row.length q.2).sum := fun L => sum_nonneg fun y hy => by
      rw [List.mem_map] at hy; obtain ⟨w, _, rfl⟩ := hy; exact cntB_nn _ _
    refine ⟨by rw [hrank]; have := hnn pre; omega, ?_, ?_⟩
    · rw [hrank, List.length_cons, cntB_succ, hl, List.map_append, List.map_cons, List.sum_append, List.sum_cons]
      have := hnn post
      dsimp only
      omega
    · rw [List.length_cons, rowAt_succ, hrank, hl, pickR_at (cntB_nn _) pre (st, x + st.2) post _ i0 i1]
      dsimp only
      rw [i2]
theorem pre_cases {α : Type} : ∀ {p1 p2 s1 s2 : List α} {a b : α}, p1 ++ a :: s1 = p2 ++ b :: s2 → (p1 = p2 ∧ a = b) ∨ (∃ m, p2 = p1 ++ a :: m) ∨ (∃ m, p1 = p2 ++ b :: m)
  | [], [], s1, s2, a, b, h => by
    rw [List.nil_append, List.nil_append] at h
    exact .inl ⟨rfl, (List.cons.inj h).1⟩
  | [], y :: p2, s1, s2, a, b, h => by
    rw [List.nil_append, List.cons_append] at h
    exact .inr (.inl ⟨p2, by rw [(List.cons.inj h).1]; rfl⟩)
  | x :: p1, [], s1, s2, a, b, h => by
    rw [List.nil_append, List.cons_append] at h
    exact .inr (.inr ⟨p1, by rw [(List.cons.inj h).1]; rfl⟩)
  | x :: p1, y :: p2, s1, s2, a, b, h => by
    rw [List.cons_append, List.cons_append] at h
    obtain ⟨h1, h2⟩ := List.cons.inj h
    rcases pre_cases h2 with ⟨z1, z2⟩ | ⟨m, z⟩ | ⟨m, z⟩
    · exact .inl ⟨by rw [h1, z1], z2⟩
    · exact .inr (.inl ⟨m, by rw [← h1, z]; rfl⟩)
    · exact .inr (.inr ⟨m, by rw [h1, z]; rfl⟩)
theorem rowAt_mono {r : Rak} (h : RakOk r) {e g : Int} : ∀ (n : Nat) (x i j : Int), 0 ≤ i → i < j → j < cntB r e g n x → ltC (eL (eP eZ eI)) (rowAt r e g n x i) (rowAt r e g n x j) = true
  | 0, x, i, j, h0, h1, h2 => by
    unfold cntB at h2
    split at h2 <;> omega
  | n + 1, x, i, j, h0, h1, h2 => by
    rw [cntB_succ] at h2
    obtain ⟨q, i', p1, s1, a1, a2, a3, a4, a5⟩ := pickR_some (cntB_nn n) h0 (Int.lt_trans h1 h2)
    obtain ⟨p, j', p2, s2, b1, b2, b3, b4, b5⟩ := pickR_some (cntB_nn n) (show 0 ≤ j by omega) h2
    rw [rowAt_succ, rowAt_succ, a2, b2]
    dsimp only
    rw [ltC_lst_cons (orc_pair orc_str orc_int)]
    have hs := next_sorted h e x
    have hnn : ∀ L : List ((S × Int) × Int), 0 ≤ (L.map fun q => cntB r e g n q.2).sum := fun L => sum_nonneg fun y hy => by
      rw [List.mem_map] at hy; obtain ⟨w, _, rfl⟩ := hy; exact cntB_nn _ _
    rcases pre_cases (a1.symm.trans b1) with ⟨z1, z2⟩ | ⟨m, z⟩ | ⟨m, z⟩
    · subst z2
      rw [if_pos rfl]
      rw [z1] at a3
      exact rowAt_mono h n q.2 i' j' a4 (by omega) b5
    · have hlt : ltC (eP eZ eI) q.1 p.1 = true := by
        rw [b1, List.pairwise_append] at hs
        exact hs.2.2 q (by rw [z]; simp) p (by simp)
      rw [if_neg (fun w => by rw [w, ltC_irrefl] at hlt; cases hlt)]
      exact hlt
    · exfalso
      rw [z, List.map_append, List.map_cons, List.sum_append, List.sum_cons] at a3
      have := hnn m
      omega
theorem alB_row {row : List (S × Int)} (h : row.length ≤ LIM) : alB 2 ((eL (eP eZ eI)) row) = true := by
  show (decide ((row.map (eP eZ eI)).length ≤ LIM) && (row.map (eP eZ eI)).all (alB 1)) = true
  rw [List.length_map]
  simp only [Bool.and_eq_true, decide_eq_true_eq, List.all_eq_true, List.mem_map]
  refine ⟨h, ?_⟩
  rintro d ⟨n, _, rfl⟩
  rfl
theorem RowOk.snoc {r : Rak} {e : Int} : ∀ {row : List (S × Int)} {x y : Int} {st : S × Int}, RowOk r e y row x → (st, y + st.2) ∈ m_next_places (stepsL r) e y → RowOk r e (y + st.2) (row ++ [st]) x
  | [], x, y, st, h, hm => by cases (show x = y from h); exact ⟨hm, rfl⟩
  | s :: row, x, y, st, ⟨h1, h2⟩, hm => ⟨h1, RowOk.snoc h2 hm⟩
def errO (r : Rak) (n : S) : Int := ((dget r.held n).map (·.error)).getD 0
def cst (r : Rak) : List (S × Int) → Int × Int
  | [] => (0, 0)
  | st :: row => ((cst r row).1 + errO r st.1, (cst r row).2 + 1)
theorem cst_len {r : Rak} : ∀ row : List (S × Int), (cst r row).2 = (row.length : Int)
  | [] => rfl
  | st :: row => by show (cst r row).2 + 1 = _; rw [cst_len row]; simp
/-- of two costs the first is no greater -/
def lle (a b : Int × Int) : Prop := a.1 < b.1 ∨ (a.1 = b.1 ∧ a.2 ≤ b.2)
theorem lle_antisymm {a b : Int × Int} (h : lle a b) (k : lle b a) : a = b := by
  unfold lle at *
  exact Prod.ext (by omega) (by omega)
theorem lle_add {a b : Int × Int} {x : Int} : lle (a.1 + x, a.2 + 1) (b.1 + x, b.2 + 1) ↔ lle a b := by unfold lle; dsimp only; omega
theorem RakOk.err {r : Rak} (h : RakOk r) (n : S) : 0 ≤ errO r n ∧ errO r n ≤ 9 := by
  unfold errO
  cases hd : dget r.held n with
  | none => exact ⟨Int.le_refl _, by decide⟩
  | some u =>
    have := h.ru _ (dget_mem hd)
    exact ⟨this.e0, this.e9⟩
theorem cst_nn {r : Rak} (h : RakOk r) : ∀ row : List (S × Int), 0 ≤ (cst r row).1 ∧ 0 ≤ (cst r row).2
  | [] => ⟨Int.le_refl _, Int.le_refl _⟩
  | st :: row => by
    have := cst_nn h row
    have := h.err st.1
    show 0 ≤ (cst r row).1 + errO r st.1 ∧ 0 ≤ (cst r row).2 + 1
    omega
theorem zero_lle {r : Rak} (h : RakOk r) (row : List (S × Int)) : lle (0, 0) (cst r row) := by
  have := cst_nn h row
  unfold lle; dsimp only; omega
/-- the least cost of a row from x to g -/
def BestC (r : Rak) (e g x : Int) (c : Int × Int) : Prop := (∃ row, RowOk r e g row x ∧ cst r row = c) ∧ ∀ row, RowOk r e g row x → lle c (cst r row)
theorem BestC.uniq {r : Rak} {e g x : Int} {c d : Int × Int} (h : BestC r e g x c) (k : BestC r e g x d) : c = d := by
  obtain ⟨row, h1, rfl⟩ := h.1
  obtain ⟨row2, k1, rfl⟩ := k.1
  exact lle_antisymm (h.2 _ k1) (k.2 _ h1)
theorem best_ex {r : Rak} (hR : RakOk r) {e g x : Int} {row : List (S × Int)} (h : RowOk r e g row x) : ∃ c, BestC r e g x c := by
  have key : ∀ (n m : Nat) (row : List (S × Int)), RowOk r e g row x → (cst r row).1 = (n : Int) → (cst r row).2 = (m : Int) → ∃ c, BestC r e g x c := by
    intro n
    induction n using Nat.strongRecOn with
    | _ n ihn =>
      intro m
      induction m using Nat.strongRecOn with
      | _ m ihm =>
        intro row h h1 h2
        by_cases z : ∀ row2, RowOk r e g row2 x → lle (cst r row) (cst r row2)
        · exact ⟨_, ⟨row, h, rfl⟩, z⟩
        · have ⟨row2, z⟩ := Classical.not_forall.mp z
          have ⟨k, z⟩ := Classical.not_imp.mp z
          have nn := cst_nn hR row2
          unfold lle at z
          by_cases y : (cst r row2).1 < (cst r row).1
          · exact ihn (cst r row2).1.toNat (by omega) (cst r row2).2.toNat row2 k (by omega) (by omega)
          · have e1 : (cst r row2).1 = (n : Int) := by omega
            exact ihm (cst r row2).2.toNat (by omega) row2 k e1 (by omega)
  have nn := cst_nn hR row
  exact key (cst r row).1.toNat (cst r row).2.toNat row h (by omega) (by omega)
theorem best_goal {r : Rak} (hR : RakOk r) {e g : Int} : BestC r e g g (0, 0) := ⟨⟨[], rfl, rfl⟩, fun row _ => zero_lle hR row⟩
/-- by a first laying -/
theorem best_le {r : Rak} {e g x : Int} {c c' : Int × Int} {q : (S × Int) × Int} (hq : q ∈ m_next_places (stepsL r) e x) (h : BestC r e g x c) (k : BestC r e g q.2 c') : lle c (c'.1 + errO r q.1.1, c'.2 + 1) := by
  obtain ⟨row, k1, rfl⟩ := k.1
  have h2 := (mem_next.mp hq).2.1
  exact h.2 (q.1 :: row) ⟨by rw [← h2]; exact hq, by rw [← h2]; exact k1⟩
theorem best_step {r : Rak} (hR : RakOk r) {e g x : Int} {c : Int × Int} (h : BestC r e g x c) (hx : x ≠ g) : ∃ q c', q ∈ m_next_places (stepsL r) e x ∧ BestC r e g q.2 c' ∧ c = (c'.1 + errO r q.1.1, c'.2 + 1) := by
  obtain ⟨row, h1, rfl⟩ := h.1
  cases row with
  | nil => exact absurd h1 hx
  | cons st row =>
    obtain ⟨a, b⟩ := h1
    obtain ⟨c', hc'⟩ := best_ex hR b
    refine ⟨(st, x + st.2), c', a, hc', ?_⟩
    have l1 := best_le a h hc'
    have l2 : lle (c'.1 + errO r st.1, c'.2 + 1) (cst r (st :: row)) := lle_add.mpr (hc'.2 row b)
    exact lle_antisymm l1 l2
/-- what is found is told by some row -/
structure CInv (r : Rak) (e g : Int) (f : List (Int × (Int × Int))) : Prop where
  nd : (keys f).Nodup
  row : ∀ x c, dget f x = some c → ∃ row, RowOk r e g row x ∧ cst r row = c
  g0 : dget f g = some (0, 0)
  rg : ∀ x, x ∈ keys f → 0 ≤ x ∧ x ≤ e
structure Costs (r : Rak) (e g : Int) (f : List (Int × (Int × Int))) : Prop where
  inv : CInv r e g f
  val : ∀ x c, 0 ≤ x → x ≤ e → (dget f x = some c ↔ BestC r e g x c)
theorem best_zero {r : Rak} (hR : RakOk r) {e g x : Int} {c : Int × Int} (h : BestC r e g x c) : c.2 = 0 ↔ x = g := by
  constructor
  · intro z
    obtain ⟨row, h1, rfl⟩ := h.1
    rw [cst_len] at z
    cases row with
    | nil => exact h1
    | cons a b => simp at z; omega
  · intro z
    subst z
    rw [h.uniq (best_goal hR)]
theorem costs_next {r : Rak} (hR : RakOk r) {e g : Int} {f : List (Int × (Int × Int))} (hC : Costs r e g f) {p : Int} (hp : 0 ≤ p ∧ p ≤ e) {c : Int × Int} (hc : dget f p = some c) (hg : p ≠ g) :
    ∃ q, (m_next_places (stepsL r) e p).find? (fun q => decide (dget f q.2 = (dget f p).map fun c => (c.1 - errO r q.1.1, c.2 - 1))) = some q ∧ q ∈ m_next_places (stepsL r) e p ∧ dget f q.2 = some (c.1 - errO r q.1.1, c.2 - 1) := by
  obtain ⟨q, c', q1, q2, q3⟩ := best_step hR ((hC.val p c hp.1 hp.2).mp hc) hg
  have hq := (mem_next.mp q1).2.2
  have hd := (hC.val q.2 c' hq.1 hq.2).mpr q2
  have hs : ((m_next_places (stepsL r) e p).find? (fun q => decide (dget f q.2 = (dget f p).map fun c => (c.1 - errO r q.1.1, c.2 - 1)))).isSome = true := by
    rw [List.find?_isSome]
    refine ⟨q, q1, ?_⟩
    rw [decide_eq_true_eq, hc, hd]
    show some c' = some (c.1 - errO r q.1.1, c.2 - 1)
    rw [q3]
    congr 1
    exact Prod.ext (by dsimp only; omega) (by dsimp only; omega)
  obtain ⟨q0, hq0⟩ := Option.isSome_iff_exists.mp hs
  have h2 := List.find?_some hq0
  rw [decide_eq_true_eq, hc] at h2
  exact ⟨q0, hq0, List.mem_of_find?_eq_some hq0, h2⟩
theorem Costs.len {r : Rak} {e g : Int} {f : List (Int × (Int × Int))} (hR : RakOk r) (he : e ≤ 200) (h : Costs r e g f) {x : Int} {c : Int × Int} (hx : 0 ≤ x ∧ x ≤ e) (hc : dget f x = some c) : c.2 ≤ e := by
  -- the places of a best row are different: each has another number of layings
  have key : ∀ (k : Nat) (x : Int) (c : Int × Int), 0 ≤ x → x ≤ e → dget f x = some c → c.2 = (k : Int) → ∃ xs : List Int, xs.length = k + 1 ∧ xs.Nodup ∧ ∀ y, y ∈ xs → y ∈ keys f ∧ ∃ d, dget f y = some d ∧ d.2 ≤ (k : Int) := by
    intro k
    induction k with
    | zero =>
      intro x c h0 h1 hc hk
      exact ⟨[x], rfl, by simp, fun y hy => by rw [List.mem_singleton] at hy; subst hy; exact ⟨List.mem_map.mpr ⟨_, dget_mem hc, rfl⟩, c, hc, by omega⟩⟩
    | succ k ih =>
      intro x c h0 h1 hc hk
      have hb := (h.val x c h0 h1).mp hc
      have hg : x ≠ g := fun z => by have := (best_zero hR hb).mpr z; omega
      obtain ⟨q, _, hm, hd⟩ := costs_next hR h ⟨h0, h1⟩ hc hg
      have hq2 := mem_next.mp hm
      obtain ⟨xs, l1, l2, l3⟩ := ih q.2 _ hq2.2.2.1 hq2.2.2.2 hd (by dsimp only; omega)
      refine ⟨x :: xs, by simp [l1], List.nodup_cons.mpr ⟨fun z => ?_, l2⟩, fun y hy => ?_⟩
      · obtain ⟨_, d, d1, d2⟩ := l3 x z
        rw [hc] at d1; cases d1; omega
      · rcases List.mem_cons.mp hy with rfl | hy
        · exact ⟨List.mem_map.mpr ⟨_, dget_mem hc, rfl⟩, c, hc, by omega⟩
        · obtain ⟨a, d, d1, d2⟩ := l3 y hy
          exact ⟨a, d, d1, by omega⟩
  have hb := (h.val x c hx.1 hx.2).mp hc
  obtain ⟨row, _, r2⟩ := hb.1
  have nn := cst_nn hR row
  rw [r2] at nn
  obtain ⟨xs, l1, l2, l3⟩ := key c.2.toNat x c hx.1 hx.2 hc (by omega)
  have := nodup_len (U := rgI 0 (e + 1)) l2 fun y hy => by have := h.inv.rg y (l3 y hy).1; rw [mem_rgI]; omega
  rw [rgI_length] at this
  omega
theorem law_true (ns : List Int) : m_law ns = .ok true := by
  apply Out.yes.eq
  unfold m_law
  refine Out.yes_bind (rack_yes (by omega) (by omega) (by omega) (by omega) (by omega) (by omega) _) fun r2 hL => ?_
  refine Out.yes_bind (take_yes (by omega) (by omega) _) fun r3 h3 => ?_
  refine Out.yes_let (Out.yes_let ?_)
  obtain ⟨r, hr⟩ : ∃ r, r = r2.1 := ⟨_, rfl⟩
  rw [← hr] at hL ⊢
  have hR := hL.ok
  obtain ⟨e, he⟩ : ∃ e, e = 9 + r3.1 := ⟨_, rfl⟩
  rw [← he]
  have he1 : 9 ≤ e ∧ e ≤ 20 := by omega
  rw [law_steps_ok hR, Out.bind_ok]
  refine Out.yes_bind (take_yes (by omega) (by omega) _) fun r7 h7 => ?_
  refine Out.yes_let (Out.yes_let (Out.yes_let ?_))
  obtain ⟨b, hb⟩ : ∃ b, b = r7.1 := ⟨_, rfl⟩
  rw [← hb]
  have hb1 : 0 ≤ b ∧ b ≤ e := by omega
  refine Out.yes_bind (take_yes (by omega) (by omega) _) fun r14 h14 => ?_
  refine Out.yes_guard (by constructor <;> omega) ?_
  have hsl := hR.steps_few2
  have hnx : ∀ ss e x, m_law_next ss e x = m_next_places ss e x := fun _ _ _ => rfl
  simp only [hnx]
  refine Out.yes_bind (Out.fold_yes (fun (pre : List Int) (s : Int × (List ((S × Int))) × Bx) => 0 ≤ s.1 ∧ s.1 ≤ e ∧ RowOk r e s.1 s.2.1 b ∧ s.2.1.length ≤ pre.length) _ _ ⟨hb1.1, hb1.2, rfl, Nat.le_refl _⟩ fun pre x post s hp hI => ?_) fun s12 hs12 => ?_
  · obtain ⟨i1, i2, i3, i4⟩ := hI
    have hpl : pre.length ≤ 60 := by
      have hl : (rgI 0 r14.1).length = pre.length + (post.length + 1) := by rw [hp]; simp
      rw [rgI_length] at hl; omega
    rw [Out.bind_ok]
    by_cases hz : m_next_places (stepsL r) e s.1 = []
    · rw [if_neg (by simp [hz]), Out.bind_ok]
      exact Out.yes_ok ⟨i1, i2, i3, by rw [List.length_append]; simp; omega⟩
    · rw [if_pos (by simp [hz]), Out.bind_assoc]
      have hpos := List.length_pos_iff.mpr hz
      have hnl := next_len (ss := stepsL r) (e := e) (x := s.1)
      refine Out.yes_bind (take_yes (by omega) (by omega) _) fun r19 h19 => ?_
      obtain ⟨q, q1, q2⟩ := pix_some h19.1 h19.2
      have hq := q2
      rw [mem_next] at hq
      rw [Out.bind_assoc, Out.bind_get q1, Out.bind_ok, Out.bind_ok, Out.bind_assoc, Out.bind_guard (by show _ < 16777216; omega), Out.bind_ok, Out.bind_ok]
      refine Out.yes_ok ⟨hq.2.2.1, hq.2.2.2, ?_, by rw [List.length_append, List.length_append]; simp; omega⟩
      dsimp only
      have hq' : q = (q.1, s.1 + q.1.2) := by rw [← hq.2.1]
      rw [hq.2.1]
      exact i3.snoc (by rw [← hq']; exact q2)
  · obtain ⟨g0, g1, hrow, hlen⟩ := hs12
    obtain ⟨row, hrw⟩ : ∃ row, row = s12.2.1 := ⟨_, rfl⟩
    obtain ⟨g, hg⟩ : ∃ g, g = s12.1 := ⟨_, rfl⟩
    rw [← hrw, ← hg] at hrow
    rw [← hrw] at hlen ⊢
    rw [← hg] at g0 g1 ⊢
    rw [rgI_length] at hlen
    have hl60 : row.length ≤ 60 := by omega
    rw [Out.bind_ok, Out.bind_ok, Out.bind_ok, Out.bind_guard (by constructor <;> omega)]
    -- the number of the row
    have hidx : ∀ (suf pre : List (S × Int)) (x acc : Int), row = pre ++ suf → 0 ≤ x → x ≤ e → RowOk r e g suf x → Out.fold (σ := Int × Int) (fun s29 (x31 : Int) =>
        (Out.fold (σ := Int) (fun s33 (x35 : ((S × Int) × Int)) =>
        ((Out.get (pix row x31)).bind fun x39 =>
        if (ltC (eP eZ eI) x35.1 x39) = true then (
        (m_row_count r e x35.2 g (((row.length : Int) - x31) - (1 : Int))).bind fun r40 =>
        (Out.ok (s33 + r40)).bind fun index41 =>
        Out.ok index41)
        else (
        Out.ok s33) : Out (Int)).bind fun s38 =>
        Out.ok s38) (m_next_places (stepsL r) e s29.2) s29.1).bind fun s34 =>
        (Out.get (pix row x31)).bind fun x42 =>
        (Out.ok (s29.2 + x42.2)).bind fun here43 =>
        Out.ok (s34, here43)) (rgI (pre.length : Int) (row.length : Int)) (acc, x) = .ok (acc + rankB r e g suf x, g) := by
      intro suf
      induction suf with
      | nil =>
        intro pre x acc e1 x0 x1 hx
        cases (show x = g from hx)
        rw [e1, List.append_nil, rgI_nil (Int.le_refl _), Out.fold_nil]
        unfold rankB; rw [Int.add_zero]
      | cons st suf ih =>
        intro pre x acc e1 x0 x1 hx
        obtain ⟨hm, hr'⟩ := hx
        have hml := mem_next.mp hm
        have hl : row.length = pre.length + (suf.length + 1) := by rw [e1, List.length_append, List.length_cons]
        rw [rgI_cons (by omega), Out.fold_cons]
        have hst : pix row (pre.length : Int) = some st := pix_nat (by rw [e1]; simp)
        dsimp only
        rw [Out.fold_plain (g := fun s (q : (S × Int) × Int) => if ltC (eP eZ eI) q.1 st = true then s + cntB r e g suf.length q.2 else s) _ _ fun s q hq => by
          rw [mem_next] at hq
          rw [Out.bind_get hst]
          by_cases z : ltC (eP eZ eI) q.1 st = true
          · rw [if_pos z, if_pos z, row_count_ok hR (by omega) (by omega) ⟨hq.2.2.1, hq.2.2.2⟩ ⟨g0, g1⟩ (by omega) (by omega), Out.bind_ok, Out.bind_ok, Out.bind_ok]
            rw [show ((row.length : Int) - (pre.length : Int) - 1).toNat = suf.length by omega]
          · rw [if_neg z, if_neg z, Out.bind_ok]]
        rw [Out.bind_ok, Out.bind_get hst, Out.bind_ok, Out.bind_ok]
        have hfold : ∀ (L : List ((S × Int) × Int)) (a : Int), L.foldl (fun s (q : (S × Int) × Int) => if ltC (eP eZ eI) q.1 st = true then s + cntB r e g suf.length q.2 else s) a = a + ((L.filter fun q => ltC (eP eZ eI) q.1 st).map fun q => cntB r e g suf.length q.2).sum := by
          intro L
          induction L with
          | nil => intro a; simp
          | cons q L ihL =>
            intro a
            rw [List.foldl_cons, ihL]
            by_cases z : ltC (eP eZ eI) q.1 st = true
            · rw [if_pos z, List.filter_cons_of_pos (p := fun (q : (S × Int) × Int) => ltC (eP eZ eI) q.1 st) z, List.map_cons, List.sum_cons]; omega
            · rw [if_neg z, List.filter_cons_of_neg (p := fun (q : (S × Int) × Int) => ltC (eP eZ eI) q.1 st) z]
        rw [hfold]
        have := ih (pre ++ [st]) (x + st.2) (acc + (((m_next_places (stepsL r) e x).filter fun q => ltC (eP eZ eI) q.1 st).map fun q => cntB r e g suf.length q.2).sum) (by rw [e1]; simp) hml.2.2.1 hml.2.2.2 hr'
        rw [show ((pre ++ [st]).length : Int) = (pre.length : Int) + 1 by simp] at this
        rw [this]
        show Out.ok (_, g) = Out.ok (acc + ((((m_next_places (stepsL r) e x).filter fun q => ltC (eP eZ eI) q.1 st).map fun q => cntB r e g suf.length q.2).sum + rankB r e g suf (x + st.2)), g)
        rw [Int.add_assoc]
    have h0 := hidx row [] b 0 rfl hb1.1 hb1.2 hrow
    rw [show ((([] : List (S × Int)).length : Nat) : Int) = 0 from rfl] at h0
    rw [h0, Out.bind_ok]
    dsimp only
    rw [Int.zero_add]
    obtain ⟨k0, k1, k2⟩ := rank_ok hR row b hrow
    obtain ⟨i, hi⟩ : ∃ i, i = rankB r e g row b := ⟨_, rfl⟩
    rw [← hi] at k0 k1 k2 ⊢
    rw [row_count_ok hR (by omega) (by omega) hb1 ⟨g0, g1⟩ (by omega) (by omega), Out.bind_ok, Int.toNat_natCast]
    refine Out.yes_ifF (by simp [k0, k1]) ?_
    have hat : ∀ j, 0 ≤ j → j < cntB r e g row.length b → m_row_at r e b g (row.length : Int) j = .ok (rowAt r e g row.length b j) := fun j j0 j1 => row_at_ok hR (by omega) (by omega) hb1 ⟨g0, g1⟩ hl60 j0 j1
    rw [hat i k0 k1, Out.bind_ok, k2]
    refine Out.yes_guard ⟨rfl, alB_row (by show _ ≤ 16777216; omega)⟩ (Out.yes_ifF rfl ?_)
    refine Out.yes_bind (R := fun c => c = false) ?_ fun c hc => ?_
    · refine Out.yes_if (fun hp => ?_) fun _ => Out.yes_ok rfl
      have hp : 0 < i := by simpa using hp
      rw [hat (i - 1) (by omega) (by omega), Out.bind_ok]
      refine Out.yes_ok ?_
      have := rowAt_mono hR row.length b (i - 1) i (by omega) (by omega) k1
      rw [k2] at this
      unfold leC; rw [this]; rfl
    · subst hc
      refine Out.yes_ifF rfl ?_
      refine Out.yes_bind (R := fun c => c = true) ?_ fun c hc => by subst hc; exact Out.yes_ok rfl
      refine Out.yes_if (fun _ => Out.yes_ok rfl) fun hp => ?_
      have hp : ¬ i + 1 = cntB r e g row.length b := by simpa using hp
      rw [hat (i + 1) (by omega) (by omega), Out.bind_ok]
      refine Out.yes_ok ?_
      have := rowAt_mono (e := e) (g := g) hR row.length b i (i + 1) k0 (by omega) (by omega)
      rw [k2] at this
      exact this
local macro_rules | `(tactic| walk_at "vis") => `(tactic| first | exact .inl rfl | exact .inr (.inl rfl) | exact .inr (.inr rfl) | exact .inr rfl)
section
variable {P : Program} {w : World} {K : PySem.W.Frag} {mg : Str → Option Value} {base : Heap} {cx : Nat → Addr} {C_Ruler : Addr} {C_Rack : Addr}
theorem mw_popLt {X : Cy} {ds : List D} {i : Nat} {d : D} {Kt : D → List D → Prop} (hi : ds[i]? = some d) (hlt2 : i < LIM) (k : Kt d (ds.eraseIdx i)) : MutW X "list.pop" ds [.int (i : Nat)] Kt := fun F H p vs us hp hf ex h1 h2 => by
  obtain ⟨v, u', rfl, h3, h4⟩ := h2
  cases (show u' = [] from h4)
  cases (show v = .int (i : Nat) from h3)
  obtain ⟨w, k1, k2⟩ := h1.get hi
  have hlt : i < vs.length := (List.getElem?_eq_some_iff.mp k1).1
  have hb : (i : Int) < 2 ^ 63 := by
    have : (LIM : Int) < 2 ^ 63 := by decide
    omega
  refine ⟨_, mt_popAt, p, vs, (i : Int), i, w, rfl, rfl, hp, by omega, hb, ?_, k1, vs.eraseIdx i, d, ds.eraseIdx i, rfl, k2, h1.eraseIdx i, k⟩
  unfold seqIndex?
  simp
  omega
/-- _law_take, as a plain function -/
theorem eqD_lst0 (ns : List Int) : eqD (.lst (ns.map D.int)) (.lst []) = ns.isEmpty := by
  cases ns with
  | nil => rfl
  | cons n ns => rfl
theorem okD_ints0 (ns : List Int) : okD 1 (.lst (ns.map D.int)) := (eqc_lst eqc_int).ok ns
theorem ok_law_take {f : Addr} {fd : FuncData} (F : Fun K "_law_take" "_law_take" s_law_take f fd) (B : Bn mg) : FnOk P w K mg base (L2.CX P w) 3 f fd ["_law_box", "_law_many"] (spD K (FB (A := Int) (R := Int) (fun a => [eI a]) (fun v => .sh (eI v)) (fun a => m_law_take a))) := by
  refine def_ok F sc_law_take (fun ds G post px h => ?_) (fun cdv A outer s H E F0 T hr ds G post px h tk hp => ?_)
  · obtain ⟨_, _, _, _, _, _, rfl, _⟩ := h; rfl
  obtain ⟨m, G0, b, g, ⟨ns, st⟩, hne, rfl, rfl, h⟩ := h
  unfold m_law_take at h
  dsimp only at h
  obtain ⟨⟨hm0, hm1⟩, h⟩ := Out.gd h
  have nd := sc_law_take.nd
  refine wb_env [.sh (.adr b), .sh (.int m), .no] rfl ?_
  refine wb_cons (ws_if ?_)
  refine wt_cmp (nomark _) ?_
  refine we_ix (fun _ _ => rfl) ?_
  refine we_var 0 rfl (by walk_at "vis") rfl ?_
  refine we_int ?_
  refine ⟨_, _, .inr ⟨b, rfl, bxG_b⟩, .inl rfl, ?_⟩
  refine ixw_lst (d := .adr g) rfl ?_
  refine we_lst (wa_nil ⟨by decide, ?_⟩)
  refine ⟨_, _, .inr ⟨g, rfl, bxG_g hne⟩, .inl rfl, ?_⟩
  refine opw_eqD (n := 1) hr.units (okD_ints0 ns) (okD_ints0 []) (by decide) ?_
  refine ⟨_, rfl, fun hd => ?_, fun hd => ?_⟩
  · have e0 : ns = [] := by
      have := (eqD_lst0 ns).symm.trans hd
      cases ns with
      | nil => rfl
      | cons n ns => cases this
    subst e0
    refine wb_cons (ws_setG ?_)
    refine we_bin ?_
    refine we_t1 (x := "int") (id := "int") rfl B.int bt_int ?_
    refine we_bin ?_
    refine we_ix (fun _ _ => rfl) ?_
    refine we_var 0 rfl (by walk_at "vis") rfl ?_
    refine we_int ?_
    refine ⟨_, _, .inr ⟨b, rfl, bxG_b⟩, .inl rfl, ?_⟩
    refine ixw_lst (d := .int st) rfl ?_
    refine we_int ?_
    refine ⟨_, _, .inl rfl, .inl rfl, ?_⟩
    refine opw_mul (.inr ⟨by decide, by decide⟩) ?_
    refine ⟨_, .inl rfl, ?_⟩
    refine c_int ?_
    refine we_int ?_
    refine ⟨_, _, .inl rfl, .inl rfl, ?_⟩
    refine opw_mod (by decide) ?_
    refine ⟨_, _, rfl, ?_⟩
    refine we_var 0 rfl (by walk_at "vis") rfl ?_
    refine ⟨b, rfl, ?_⟩
    refine we_int ?_
    refine ⟨1, _, 1, rfl, bxG_b, rfl, ?_⟩
    rw [show ([D.adr g, D.int st].set 1 (D.int (st * 48271 % 2147483647))) = [D.adr g, D.int (st * 48271 % 2147483647)] from rfl]
    rw [show updG (bxG G0 b g ([], st)) b (.lst [D.adr g, D.int (st * 48271 % 2147483647)]) = bxG G0 b g ([], st * 48271 % 2147483647) from bxG_setB]
    refine wb_cons (ws_ret ?_)
    refine we_bin ?_
    refine we_t1 (x := "int") (id := "int") rfl B.int bt_int ?_
    refine we_bin ?_
    refine we_ix (fun _ _ => rfl) ?_
    refine we_var 0 rfl (by walk_at "vis") rfl ?_
    refine we_int ?_
    refine ⟨_, _, .inr ⟨b, rfl, bxG_b⟩, .inl rfl, ?_⟩
    refine ixw_lst (d := .int (st * 48271 % 2147483647)) rfl ?_
    refine we_int ?_
    refine ⟨_, _, .inl rfl, .inl rfl, ?_⟩
    refine opw_fdiv ⟨by decide, by decide⟩ ?_
    refine ⟨_, .inl rfl, ?_⟩
    refine c_int ?_
    refine we_var 1 rfl (by walk_at "vis") rfl ?_
    refine ⟨_, _, .inl rfl, .inl rfl, ?_⟩
    refine opw_mod hm0 ?_
    exact ⟨_, rfl, h⟩
  · obtain ⟨n, rs, e0⟩ : ∃ n rs, ns = n :: rs := by
      cases ns with
      | nil => exact absurd ((eqD_lst0 []).symm.trans hd) (by decide)
      | cons n rs => exact ⟨n, rs, rfl⟩
    subst e0
    replace h : post (.sh (.int (n % m))) (bxG G0 b g (if n / m = 0 ∨ n / m = -1 then rs else n / m :: rs, st)) := h
    refine wb_nil ?_
    refine wb_cons (ws_set 2 nd rfl (.inl rfl) ?_)
    refine we_ix (fun _ _ => rfl) ?_
    refine we_ix (fun _ _ => rfl) ?_
    refine we_var 0 rfl (by walk_at "vis") rfl ?_
    refine we_int ?_
    refine ⟨_, _, .inr ⟨b, rfl, bxG_b⟩, .inl rfl, ?_⟩
    refine ixw_lst (d := .adr g) rfl ?_
    refine we_int ?_
    refine ⟨_, _, .inr ⟨g, rfl, bxG_g hne⟩, .inl rfl, ?_⟩
    refine ixw_lst (d := .int n) (atD_nat (j := 0) rfl) ?_
    refine ⟨lt_ rfl, _, rfl, ?_⟩
    refine wb_cons (ws_setG ?_)
    refine we_bin ?_
    refine we_var 2 rfl (by walk_at "vis") rfl ?_
    refine we_var 1 rfl (by walk_at "vis") rfl ?_
    refine ⟨_, _, .inl rfl, .inl rfl, ?_⟩
    refine opw_fdivX ⟨hm0, hm1⟩ ?_
    refine ⟨_, _, rfl, ?_⟩
    refine we_ix (fun _ _ => rfl) ?_
    refine we_var 0 rfl (by walk_at "vis") rfl ?_
    refine we_int ?_
    refine ⟨_, _, .inr ⟨b, rfl, bxG_b⟩, .inl rfl, ?_⟩
    refine ixw_lst (d := .adr g) rfl ?_
    refine ⟨g, rfl, ?_⟩
    refine we_int ?_
    refine ⟨0, _, 0, rfl, bxG_g hne, ixN0 _ _, ?_⟩
    rw [show ((n :: rs).map D.int).set 0 (D.int (n / m)) = (n / m :: rs).map D.int from rfl, bxG_setG hne]
    refine wb_env [.sh (.adr b), .sh (.int m), .sh (.int n)] rfl ?_
    have last : ∀ G', post (.sh (.int (n % m))) G' → WB (cyOf P w K mg base ["_law_box", "_law_many", "_law_figure"] "_law_take" (defScope s_law_take) f cdv A outer s H E F0 T px) ((defBody s_law_take).drop 4) [.sh (.adr b), .sh (.int m), .sh (.int n)] G' { nx := fun _ G' => post (.sh .non) G', rt := post } := fun G' hG => by
      refine wb_cons (ws_ret ?_)
      refine we_bin ?_
      refine we_var 2 rfl (by walk_at "vis") rfl ?_
      refine we_var 1 rfl (by walk_at "vis") rfl ?_
      refine ⟨_, _, .inl rfl, .inl rfl, ?_⟩
      refine opw_mod hm0 ?_
      exact ⟨_, rfl, hG⟩
    have item : ∀ {Q : Res → Prop}, Q (.sh (.int (n / m))) → IxW (cyOf P w K mg base ["_law_box", "_law_many", "_law_figure"] "_law_take" (defScope s_law_take) f cdv A outer s H E F0 T px) (.lst ((n / m :: rs).map D.int)) (.int 0) Q := fun q => ixw_lst (d := .int (n / m)) (atD_nat (j := 0) rfl) q
    refine wb_cons (ws_if ?_)
    refine wt_w (ww_orB ?_)
    refine wt_cmp (nomark _) ?_
    refine we_ix (fun _ _ => rfl) ?_
    refine we_ix (fun _ _ => rfl) ?_
    refine we_var 0 rfl (by walk_at "vis") rfl ?_
    refine we_int ?_
    refine ⟨_, _, .inr ⟨b, rfl, bxG_b⟩, .inl rfl, ?_⟩
    refine ixw_lst (d := .adr g) rfl ?_
    refine we_int ?_
    refine ⟨_, _, .inr ⟨g, rfl, bxG_g hne⟩, .inl rfl, ?_⟩
    refine item ?_
    refine we_int ?_
    refine ⟨_, _, .inl rfl, .inl rfl, ?_⟩
    refine opw_eqI ?_
    refine ⟨_, rfl, ?_⟩
    refine ⟨decide (n / m = -1), fun hc => ?_, ?_⟩
    · refine ww_or1 ?_
      refine wt_cmp (nomark _) ?_
      refine we_ix (fun _ _ => rfl) ?_
      refine we_ix (fun _ _ => rfl) ?_
      refine we_var 0 rfl (by walk_at "vis") rfl ?_
      refine we_int ?_
      refine ⟨_, _, .inr ⟨b, rfl, bxG_b⟩, .inl rfl, ?_⟩
      refine ixw_lst (d := .adr g) rfl ?_
      refine we_int ?_
      refine ⟨_, _, .inr ⟨g, rfl, bxG_g hne⟩, .inl rfl, ?_⟩
      refine item ?_
      refine we_un rfl ?_
      refine we_int ?_
      refine ⟨_, rfl, ?_⟩
      refine ⟨_, _, .inl rfl, .inl rfl, ?_⟩
      refine opw_eqI ?_
      exact ⟨_, rfl, rfl, rfl, rfl⟩
    refine ⟨fun hd2 => ?_, fun hd2 => ?_⟩
    · have hc : n / m = 0 ∨ n / m = -1 := by
        simpa using hd2
      refine wb_cons (ws_expr ?_)
      refine we_m1G PySem.F.plainAttrs_list PySem.F.slot_list_pop PySem.F.type_list_pop ?_
      refine we_ix (fun _ _ => rfl) ?_
      refine we_var 0 rfl (by walk_at "vis") rfl ?_
      refine we_int ?_
      refine ⟨_, _, .inr ⟨b, rfl, bxG_b⟩, .inl rfl, ?_⟩
      refine ixw_lst (d := .adr g) rfl ?_
      refine ⟨g, _, rfl, bxG_g hne, ?_⟩
      refine we_int ?_
      refine ⟨_, _, (n / m :: rs).map D.int, rfl, bxG_g hne, ?_⟩
      refine mw_popLt (i := 0) (d := .int (n / m)) rfl (by decide) ?_
      refine wb_nil ?_
      rw [show ((n / m :: rs).map D.int).eraseIdx 0 = rs.map D.int from rfl, bxG_setG hne]
      refine last _ ?_
      rw [if_pos hc] at h
      exact h
    · have hc : ¬ (n / m = 0 ∨ n / m = -1) := by
        simpa using hd2
      refine wb_nil ?_
      refine last _ ?_
      rw [if_neg hc] at h
      exact h
/-- _law_begun, as a plain function -/
theorem ok_law_begun {f : Addr} {fd : FuncData} (F : Fun K "_law_begun" "_law_begun" s_law_begun f fd) (B : Bn mg) : FnOk P w K mg base (L2.CX P w) 3 f fd ["_law_script"] (spD K (FBegun m_law_begun)) := by
  refine def_ok F sc_law_begun (fun ds G post px h => ?_) (fun cdv A outer s H E F0 T hr ds G post px h tk hp => ?_)
  · obtain ⟨_, rfl, _⟩ := h; rfl
  obtain ⟨ns, rfl, hq⟩ := h
  have nd := sc_law_begun.nd
  refine wb_cons (ws_set 1 nd rfl (.inl rfl) ?_)
  refine we_int ?_
  refine ⟨lt_ rfl, _, rfl, ?_⟩
  refine wb_cons (ws_for (is := [2]) hp rfl ?_)
  refine wi_scr ?_
  refine we_var 0 rfl (by walk_at "vis") rfl ?_
  refine ⟨ns, _, rfl, fun k r G' => G' = G ∧ ∃ z, r = [.sh (.scr ns), .sh (.int ((ns.take k).foldl (fun s n => (s * 48271 + n * 69621 + 11) % 2147483647) 0)), z], ⟨rfl, .no, rfl⟩, fun k d r3 G3 hk ⟨h1, z, h2⟩ => ?_, fun r3 G3 ⟨h1, z, h2⟩ => ?_⟩
  · subst h1 h2
    obtain ⟨n, hn, rfl⟩ := map_at hk
    refine wg_name 2 nd rfl (.inl rfl) (by decide) (lt_ rfl) ?_
    refine wb_cons (ws_set 1 nd rfl (.inl rfl) ?_)
    refine we_bin ?_
    refine we_t1 (x := "int") (id := "int") rfl B.int bt_int ?_
    refine we_bin ?_
    refine we_bin ?_
    refine we_bin ?_
    refine we_var 1 rfl (by walk_at "vis") rfl ?_
    refine we_int ?_
    refine ⟨_, _, .inl rfl, .inl rfl, ?_⟩
    refine opw_mul (.inr ⟨by decide, by decide⟩) ?_
    refine we_bin ?_
    refine we_var 2 rfl (by walk_at "vis") rfl ?_
    refine we_int ?_
    refine ⟨_, _, .inl rfl, .inl rfl, ?_⟩
    refine opw_mul (.inr ⟨by decide, by decide⟩) ?_
    refine ⟨_, _, .inl rfl, .inl rfl, ?_⟩
    refine opw_add ?_
    refine we_int ?_
    refine ⟨_, _, .inl rfl, .inl rfl, ?_⟩
    refine opw_add ?_
    refine ⟨_, .inl rfl, ?_⟩
    refine c_int ?_
    refine we_int ?_
    refine ⟨_, _, .inl rfl, .inl rfl, ?_⟩
    refine opw_mod (by decide) ?_
    refine ⟨lt_ rfl, _, rfl, ?_⟩
    refine wb_nil ⟨rfl, .sh (.int n), ?_⟩
    rw [List.take_add_one, hn]
    show _ = [_, Sl.sh (.int (List.foldl _ _ (ns.take k ++ [n]))), _]
    rw [List.foldl_append]
    rfl
  · subst h1 h2
    rw [List.length_map, List.take_length]
    refine wb_cons (ws_ret ?_)
    refine we_open ?_
    refine we_lst ?_
    refine wa_cons ?_
    refine we_open ?_
    refine we_t1 (x := "list") (id := "list") rfl B.list bt_list ?_
    refine we_var 0 rfl (by walk_at "vis") rfl ?_
    refine ⟨_, .inl rfl, ?_⟩
    refine c_listR ?_
    refine ⟨_, rfl, fun g hg => ?_⟩
    refine ⟨_, _, rfl, ?_⟩
    refine wa_cons ?_
    refine we_bin ?_
    refine we_var 1 rfl (by walk_at "vis") rfl ?_
    refine we_t1 (x := "int") (id := "int") rfl B.int bt_int ?_
    refine we_cmp (nomark _) ?_
    refine we_b1 (x := "len") (id := "len") rfl B.len bt_len ?_
    refine we_var 0 rfl (by walk_at "vis") rfl ?_
    refine ⟨_, .inl rfl, ?_⟩
    refine c_lenR ?_
    refine we_int ?_
    refine ⟨_, _, .inl rfl, .inl rfl, ?_⟩
    refine opw_gt ?_
    refine ⟨_, .inl rfl, ?_⟩
    refine c_intB ?_
    refine ⟨_, _, .inl rfl, .inl rfl, ?_⟩
    refine opw_mul (.inr ?_) ?_
    · split <;> decide
    refine ⟨_, _, rfl, ?_⟩
    refine wa_nil ?_
    refine ⟨lt_ rfl, ?_⟩
    refine ⟨_, rfl, fun b hb => ?_⟩
    have hne : g ≠ b := fun z => by subst z; rw [updG_same] at hb; cases hb
    exact ⟨_, rfl, hq b g hne (by rwa [updG_ne (Ne.symm hne)] at hb) hg⟩
theorem ok_law_alike {f : Addr} {fd : FuncData} {k n : Nat} (F : Fun K "_law_alike" "_law_alike" s_law_alike f fd) (B : Bn mg) (c_law_alike : 0 < n → Cal P w K mg base "_law_alike" k ["_law_found", "_law_due"] (alikeF (n - 1))) : FnOk P w K mg base (L2.CX P w) (k + 1) f fd ["_law_found", "_law_due"] (spD K (alikeF n)) := by
  refine def_ok F sc_law_alike (fun ds G post px h => ?_) (fun cdv A outer s H E F0 T hr ds G post px h tk hp => ?_)
  · obtain ⟨d, rfl, _⟩ := h; rfl
  obtain ⟨d, rfl, hok, hq⟩ := h
  have nd := sc_law_alike.nd
  refine wb_env [.sh d, .sh d, .no] rfl ?_
  cases d with
  | non =>
    refine wb_cons (ws_if ?_)
    refine wt_cmp (nomark _) ?_
    refine we_var 1 rfl (by walk_at "vis") rfl ?_
    refine we_non ?_
    refine ⟨_, _, .inl rfl, .inl rfl, ?_⟩
    refine opw_isN ?_
    refine ⟨_, rfl, fun _ => ?_, fun hd => absurd (show true = false from hd) (by decide)⟩
    refine wb_cons (ws_ret ?_)
    refine we_cmp (nomark _) ?_
    refine we_var 0 rfl (by walk_at "vis") rfl ?_
    refine we_non ?_
    refine ⟨_, _, .inl rfl, .inl rfl, ?_⟩
    refine opw_isN ?_
    exact ⟨_, rfl, hq⟩
  | bl b =>
    refine wb_cons (ws_if ?_)
    refine wt_cmp (nomark _) ?_
    refine we_var 1 rfl (by walk_at "vis") rfl ?_
    refine we_non ?_
    refine ⟨_, _, .inl rfl, .inl rfl, ?_⟩
    refine opw_isN ?_
    refine ⟨_, rfl, fun hd => absurd (show false = true from hd) Bool.false_ne_true, fun _ => ?_⟩
    refine wb_nil ?_
    refine wb_cons (ws_if ?_)
    refine wt_val (fun _ => rfl) ?_
    refine we_isi rfl B.isinstance bt_isinstance rfl B.bool bt_bool ?_
    refine we_var 1 rfl (by walk_at "vis") rfl ?_
    refine ⟨_, _, _, .inl rfl, rfl, kt_bool_bool, ?_⟩
    refine ⟨_, rfl, fun _ => ?_, fun hd => absurd (show true = false from hd) (by decide)⟩
    refine wb_cons (ws_ret ?_)
    refine we_and ?_
    refine we_isi rfl B.isinstance bt_isinstance rfl B.bool bt_bool ?_
    refine we_var 0 rfl (by walk_at "vis") rfl ?_
    refine ⟨_, _, _, .inl rfl, rfl, kt_bool_bool, ?_⟩
    refine ⟨_, rfl, fun _ => ?_, fun hc => absurd hc (by decide)⟩
    refine we_one ?_
    refine we_cmp (nomark _) ?_
    refine we_var 0 rfl (by walk_at "vis") rfl ?_
    refine we_var 1 rfl (by walk_at "vis") rfl ?_
    refine ⟨_, _, .inl rfl, .inl rfl, ?_⟩
    refine opw_eqB ?_
    refine ⟨_, rfl, ?_⟩
    rw [beq_self_eq_true]
    exact hq
  | int i =>
    refine wb_cons (ws_if ?_)
    refine wt_cmp (nomark _) ?_
    refine we_var 1 rfl (by walk_at "vis") rfl ?_
    refine we_non ?_
    refine ⟨_, _, .inl rfl, .inl rfl, ?_⟩
    refine opw_isN ?_
    refine ⟨_, rfl, fun hd => absurd (show false = true from hd) Bool.false_ne_true, fun _ => ?_⟩
    refine wb_nil ?_
    refine wb_cons (ws_if ?_)
    refine wt_val (fun _ => rfl) ?_
    refine we_isi rfl B.isinstance bt_isinstance rfl B.bool bt_bool ?_
    refine we_var 1 rfl (by walk_at "vis") rfl ?_
    refine ⟨_, _, _, .inl rfl, rfl, kt_int_bool, ?_⟩
    refine ⟨_, rfl, fun hd => absurd (show false = true from hd) Bool.false_ne_true, fun _ => ?_⟩
    refine wb_nil ?_
    refine wb_cons (ws_if ?_)
    refine wt_val (fun _ => rfl) ?_
    refine we_isi rfl B.isinstance bt_isinstance rfl B.int bt_int ?_
    refine we_var 1 rfl (by walk_at "vis") rfl ?_
    refine ⟨_, _, _, .inl rfl, rfl, kt_int_int, ?_⟩
    refine ⟨_, rfl, fun _ => ?_, fun hd => absurd (show true = false from hd) (by decide)⟩
    refine wb_cons (ws_ret ?_)
    refine we_and ?_
    refine we_isi rfl B.isinstance bt_isinstance rfl B.int bt_int ?_
    refine we_var 0 rfl (by walk_at "vis") rfl ?_
    refine ⟨_, _, _, .inl rfl, rfl, kt_int_int, ?_⟩
    refine ⟨_, rfl, fun _ => ?_, fun hc => absurd hc (by decide)⟩
    refine we_and ?_
    refine we_not ?_
    refine we_isi rfl B.isinstance bt_isinstance rfl B.bool bt_bool ?_
    refine we_var 0 rfl (by walk_at "vis") rfl ?_
    refine ⟨_, _, _, .inl rfl, rfl, kt_int_bool, ?_⟩
    refine ⟨_, rfl, ?_⟩
    refine ⟨_, rfl, fun _ => ?_, fun hc => absurd hc (by decide)⟩
    refine we_one ?_
    refine we_cmp (nomark _) ?_
    refine we_var 0 rfl (by walk_at "vis") rfl ?_
    refine we_var 1 rfl (by walk_at "vis") rfl ?_
    refine ⟨_, _, .inl rfl, .inl rfl, ?_⟩
    refine opw_eqI ?_
    refine ⟨_, rfl, ?_⟩
    rw [decide_eq_true rfl]
    exact hq
  | str x =>
    refine wb_cons (ws_if ?_)
    refine wt_cmp (nomark _) ?_
    refine we_var 1 rfl (by walk_at "vis") rfl ?_
    refine we_non ?_
    refine ⟨_, _, .inl rfl, .inl rfl, ?_⟩
    refine opw_isN ?_
    refine ⟨_, rfl, fun hd => absurd (show false = true from hd) Bool.false_ne_true, fun _ => ?_⟩
    refine wb_nil ?_
    refine wb_cons (ws_if ?_)
    refine wt_val (fun _ => rfl) ?_
    refine we_isi rfl B.isinstance bt_isinstance rfl B.bool bt_bool ?_
    refine we_var 1 rfl (by walk_at "vis") rfl ?_
    refine ⟨_, _, _, .inl rfl, rfl, kt_str_bool, ?_⟩
    refine ⟨_, rfl, fun hd => absurd (show false = true from hd) Bool.false_ne_true, fun _ => ?_⟩
    refine wb_nil ?_
    refine wb_cons (ws_if ?_)
    refine wt_val (fun _ => rfl) ?_
    refine we_isi rfl B.isinstance bt_isinstance rfl B.int bt_int ?_
    refine we_var 1 rfl (by walk_at "vis") rfl ?_
    refine ⟨_, _, _, .inl rfl, rfl, kt_str_int, ?_⟩
    refine ⟨_, rfl, fun hd => absurd (show false = true from hd) Bool.false_ne_true, fun _ => ?_⟩
    refine wb_nil ?_
    refine wb_cons (ws_if ?_)
    refine wt_val (fun _ => rfl) ?_
    refine we_isi rfl B.isinstance bt_isinstance rfl B.str bt_str ?_
    refine we_var 1 rfl (by walk_at "vis") rfl ?_
    refine ⟨_, _, _, .inl rfl, rfl, kt_str_str, ?_⟩
    refine ⟨_, rfl, fun _ => ?_, fun hd => absurd (show true = false from hd) (by decide)⟩
    refine wb_cons (ws_ret ?_)
    refine we_and ?_
    refine we_isi rfl B.isinstance bt_isinstance rfl B.str bt_str ?_
    refine we_var 0 rfl (by walk_at "vis") rfl ?_
    refine ⟨_, _, _, .inl rfl, rfl, kt_str_str, ?_⟩
    refine ⟨_, rfl, fun _ => ?_, fun hc => absurd hc (by decide)⟩
    refine we_one ?_
    refine we_cmp (nomark _) ?_
    refine we_var 0 rfl (by walk_at "vis") rfl ?_
    refine we_var 1 rfl (by walk_at "vis") rfl ?_
    refine ⟨_, _, .inl rfl, .inl rfl, ?_⟩
    refine opw_eqS ?_
    refine ⟨_, rfl, ?_⟩
    rw [decide_eq_true rfl]
    exact hq
  | tup ds =>
    cases n with
    | zero => exact absurd (show false = true from hok) Bool.false_ne_true
    | succ n =>
    replace c_law_alike := c_law_alike (Nat.succ_pos n)
    replace hok : ds.length ≤ LIM ∧ ∀ d ∈ ds, alB n d = true := by have h2 : (decide (ds.length ≤ LIM) && ds.all (alB n)) = true := hok; rw [Bool.and_eq_true, decide_eq_true_eq, List.all_eq_true] at h2; exact h2
    have hlim : ds.length ≤ LIM := hok.1
    have hlim2 : (ds.length : Int) ≤ 16777216 := by have := hlim; unfold LIM at this; omega
    refine wb_cons (ws_if ?_)
    refine wt_cmp (nomark _) ?_
    refine we_var 1 rfl (by walk_at "vis") rfl ?_
    refine we_non ?_
    refine ⟨_, _, .inl rfl, .inl rfl, ?_⟩
    refine opw_isN ?_
    refine ⟨_, rfl, fun hd => absurd (show false = true from hd) Bool.false_ne_true, fun _ => ?_⟩
    refine wb_nil ?_
    refine wb_cons (ws_if ?_)
    refine wt_val (fun _ => rfl) ?_
    refine we_isi rfl B.isinstance bt_isinstance rfl B.bool bt_bool ?_
    refine we_var 1 rfl (by walk_at "vis") rfl ?_
    refine ⟨_, _, _, .inl rfl, rfl, kt_tuple_bool, ?_⟩
    refine ⟨_, rfl, fun hd => absurd (show false = true from hd) Bool.false_ne_true, fun _ => ?_⟩
    refine wb_nil ?_
    refine wb_cons (ws_if ?_)
    refine wt_val (fun _ => rfl) ?_
    refine we_isi rfl B.isinstance bt_isinstance rfl B.int bt_int ?_
    refine we_var 1 rfl (by walk_at "vis") rfl ?_
    refine ⟨_, _, _, .inl rfl, rfl, kt_tuple_int, ?_⟩
    refine ⟨_, rfl, fun hd => absurd (show false = true from hd) Bool.false_ne_true, fun _ => ?_⟩
    refine wb_nil ?_
    refine wb_cons (ws_if ?_)
    refine wt_val (fun _ => rfl) ?_
    refine we_isi rfl B.isinstance bt_isinstance rfl B.str bt_str ?_
    refine we_var 1 rfl (by walk_at "vis") rfl ?_
    refine ⟨_, _, _, .inl rfl, rfl, kt_tuple_str, ?_⟩
    refine ⟨_, rfl, fun hd => absurd (show false = true from hd) Bool.false_ne_true, fun _ => ?_⟩
    refine wb_nil ?_
    refine wb_cons (ws_if ?_)
    refine wt_w (ww_or ?_)
    refine wt_cmp (nomark _) ?_
    refine we_isi rfl B.isinstance bt_isinstance rfl B.tuple bt_tuple ?_
    refine we_var 1 rfl (by walk_at "vis") rfl ?_
    refine ⟨_, _, _, .inl rfl, rfl, kt_tuple_tuple, ?_⟩
    refine we_isi rfl B.isinstance bt_isinstance rfl B.tuple bt_tuple ?_
    refine we_var 0 rfl (by walk_at "vis") rfl ?_
    refine ⟨_, _, _, .inl rfl, rfl, kt_tuple_tuple, ?_⟩
    refine ⟨_, _, .inl rfl, .inl rfl, ?_⟩
    refine opw_neB ?_
    refine ⟨_, rfl, fun _ => ?_, fun hd => absurd (show false = true from hd) Bool.false_ne_true⟩
    refine ww_or1 ?_
    refine wt_cmp (nomark _) ?_
    refine we_isi rfl B.isinstance bt_isinstance rfl B.list bt_list ?_
    refine we_var 1 rfl (by walk_at "vis") rfl ?_
    refine ⟨_, _, _, .inl rfl, rfl, kt_tuple_list, ?_⟩
    refine we_isi rfl B.isinstance bt_isinstance rfl B.list bt_list ?_
    refine we_var 0 rfl (by walk_at "vis") rfl ?_
    refine ⟨_, _, _, .inl rfl, rfl, kt_tuple_list, ?_⟩
    refine ⟨_, _, .inl rfl, .inl rfl, ?_⟩
    refine opw_neB ?_
    refine ⟨_, rfl, fun hd => absurd (show false = true from hd) Bool.false_ne_true, fun _ => ?_⟩
    refine wb_nil ?_
    refine wb_cons (ws_if ?_)
    refine wt_cmp (nomark _) ?_
    refine we_b1 (x := "len") (id := "len") rfl B.len bt_len ?_
    refine we_var 0 rfl (by walk_at "vis") rfl ?_
    refine ⟨_, .inl rfl, ?_⟩
    refine c_lenT ?_
    refine we_b1 (x := "len") (id := "len") rfl B.len bt_len ?_
    refine we_var 1 rfl (by walk_at "vis") rfl ?_
    refine ⟨_, .inl rfl, ?_⟩
    refine c_lenT ?_
    refine ⟨_, _, .inl rfl, .inl rfl, ?_⟩
    refine opw_neI ?_
    refine ⟨_, rfl, fun hd => absurd hd (by simp), fun _ => ?_⟩
    refine wb_nil ?_
    refine wb_cons (ws_for (is := [2]) hp rfl ?_)
    refine wi_rng1 rfl B.range ?_
    refine we_b1 (x := "len") (id := "len") rfl B.len bt_len ?_
    refine we_var 1 rfl (by walk_at "vis") rfl ?_
    refine ⟨_, .inl rfl, ?_⟩
    refine c_lenT ?_
    refine ⟨_, rfl, ⟨by omega, by omega⟩, fun j r G' => G' = G ∧ ∃ z, r = [.sh (.tup ds), .sh (.tup ds), z], ⟨rfl, .no, rfl⟩, fun j d r3 G3 hj ⟨h1, z, h2⟩ => ?_, fun r3 G3 ⟨h1, z, h2⟩ => ?_⟩
    · subst h1 h2
      obtain ⟨jj, hj1, rfl⟩ := map_at hj
      obtain ⟨hj3, rfl⟩ := rgI_get hj1
      have hj2 : j < ds.length := by omega
      have hjd : ds[j]? = some ds[j] := List.getElem?_eq_getElem hj2
      rw [show (0 : Int) + ((j : Nat) : Int) = ((j : Nat) : Int) from Int.zero_add _]
      refine wg_name 2 nd rfl (by walk_at "vis") (by decide) (lt_ rfl) ?_
      refine wb_cons (ws_if ?_)
      refine wt_not ?_
      refine wt_val (fun _ => rfl) ?_
      refine we_cal tk c_law_alike hr rfl ?_
      refine wa_cons ?_
      refine we_ix (fun _ _ => rfl) ?_
      refine we_var 0 rfl (by walk_at "vis") rfl ?_
      refine we_var 2 rfl (by walk_at "vis") rfl ?_
      refine ⟨_, _, .inl rfl, .inl rfl, ?_⟩
      refine ixw_tup (atD_nat hjd) ?_
      refine ⟨_, _, rfl, ?_⟩
      refine wa_cons ?_
      refine we_ix (fun _ _ => rfl) ?_
      refine we_var 1 rfl (by walk_at "vis") rfl ?_
      refine we_var 2 rfl (by walk_at "vis") rfl ?_
      refine ⟨_, _, .inl rfl, .inl rfl, ?_⟩
      refine ixw_tup (atD_nat hjd) ?_
      refine ⟨_, _, rfl, ?_⟩
      refine wa_nil ?_
      refine ⟨ds[j], rfl, hok.2 _ (List.getElem_mem hj2), ?_⟩
      refine ⟨_, rfl, fun hd => absurd (show false = true from hd) Bool.false_ne_true, fun _ => ?_⟩
      refine wb_nil (wb_nil ⟨rfl, .sh (.int (j : Nat)), rfl⟩)
    · subst h1 h2
      refine wb_cons (ws_ret ?_)
      refine we_bl ?_
      exact ⟨_, rfl, hq⟩
  | lst ds =>
    cases n with
    | zero => exact absurd (show false = true from hok) Bool.false_ne_true
    | succ n =>
    replace c_law_alike := c_law_alike (Nat.succ_pos n)
    replace hok : ds.length ≤ LIM ∧ ∀ d ∈ ds, alB n d = true := by have h2 : (decide (ds.length ≤ LIM) && ds.all (alB n)) = true := hok; rw [Bool.and_eq_true, decide_eq_true_eq, List.all_eq_true] at h2; exact h2
    have hlim : ds.length ≤ LIM := hok.1
    have hlim2 : (ds.length : Int) ≤ 16777216 := by have := hlim; unfold LIM at this; omega
    refine wb_cons (ws_if ?_)
    refine wt_cmp (nomark _) ?_
    refine we_var 1 rfl (by walk_at "vis") rfl ?_
    refine we_non ?_
    refine ⟨_, _, .inl rfl, .inl rfl, ?_⟩
    refine opw_isN ?_
    refine ⟨_, rfl, fun hd => absurd (show false = true from hd) Bool.false_ne_true, fun _ => ?_⟩
    refine wb_nil ?_
    refine wb_cons (ws_if ?_)
    refine wt_val (fun _ => rfl) ?_
    refine we_isi rfl B.isinstance bt_isinstance rfl B.bool bt_bool ?_
    refine we_var 1 rfl (by walk_at "vis") rfl ?_
    refine ⟨_, _, _, .inl rfl, rfl, kt_list_bool, ?_⟩
    refine ⟨_, rfl, fun hd => absurd (show false = true from hd) Bool.false_ne_true, fun _ => ?_⟩
    refine wb_nil ?_
    refine wb_cons (ws_if ?_)
    refine wt_val (fun _ => rfl) ?_
    refine we_isi rfl B.isinstance bt_isinstance rfl B.int bt_int ?_
    refine we_var 1 rfl (by walk_at "vis") rfl ?_
    refine ⟨_, _, _, .inl rfl, rfl, kt_list_int, ?_⟩
    refine ⟨_, rfl, fun hd => absurd (show false = true from hd) Bool.false_ne_true, fun _ => ?_⟩
    refine wb_nil ?_
    refine wb_cons (ws_if ?_)
    refine wt_val (fun _ => rfl) ?_
    refine we_isi rfl B.isinstance bt_isinstance rfl B.str bt_str ?_
    refine we_var 1 rfl (by walk_at "vis") rfl ?_
    refine ⟨_, _, _, .inl rfl, rfl, kt_list_str, ?_⟩
    refine ⟨_, rfl, fun hd => absurd (show false = true from hd) Bool.false_ne_true, fun _ => ?_⟩
    refine wb_nil ?_
    refine wb_cons (ws_if ?_)
    refine wt_w (ww_or ?_)
    refine wt_cmp (nomark _) ?_
    refine we_isi rfl B.isinstance bt_isinstance rfl B.tuple bt_tuple ?_
    refine we_var 1 rfl (by walk_at "vis") rfl ?_
    refine ⟨_, _, _, .inl rfl, rfl, kt_list_tuple, ?_⟩
    refine we_isi rfl B.isinstance bt_isinstance rfl B.tuple bt_tuple ?_
    refine we_var 0 rfl (by walk_at "vis") rfl ?_
    refine ⟨_, _, _, .inl rfl, rfl, kt_list_tuple, ?_⟩
    refine ⟨_, _, .inl rfl, .inl rfl, ?_⟩
    refine opw_neB ?_
    refine ⟨_, rfl, fun _ => ?_, fun hd => absurd (show false = true from hd) Bool.false_ne_true⟩
    refine ww_or1 ?_
    refine wt_cmp (nomark _) ?_
    refine we_isi rfl B.isinstance bt_isinstance rfl B.list bt_list ?_
    refine we_var 1 rfl (by walk_at "vis") rfl ?_
    refine ⟨_, _, _, .inl rfl, rfl, kt_list_list, ?_⟩
    refine we_isi rfl B.isinstance bt_isinstance rfl B.list bt_list ?_
    refine we_var 0 rfl (by walk_at "vis") rfl ?_
    refine ⟨_, _, _, .inl rfl, rfl, kt_list_list, ?_⟩
    refine ⟨_, _, .inl rfl, .inl rfl, ?_⟩
    refine opw_neB ?_
    refine ⟨_, rfl, fun hd => absurd (show false = true from hd) Bool.false_ne_true, fun _ => ?_⟩
    refine wb_nil ?_
    refine wb_cons (ws_if ?_)
    refine wt_cmp (nomark _) ?_
    refine we_b1 (x := "len") (id := "len") rfl B.len bt_len ?_
    refine we_var 0 rfl (by walk_at "vis") rfl ?_
    refine ⟨_, .inl rfl, ?_⟩
    refine c_len ?_
    refine we_b1 (x := "len") (id := "len") rfl B.len bt_len ?_
    refine we_var 1 rfl (by walk_at "vis") rfl ?_
    refine ⟨_, .inl rfl, ?_⟩
    refine c_len ?_
    refine ⟨_, _, .inl rfl, .inl rfl, ?_⟩
    refine opw_neI ?_
    refine ⟨_, rfl, fun hd => absurd hd (by simp), fun _ => ?_⟩
    refine wb_nil ?_
    refine wb_cons (ws_for (is := [2]) hp rfl ?_)
    refine wi_rng1 rfl B.range ?_
    refine we_b1 (x := "len") (id := "len") rfl B.len bt_len ?_
    refine we_var 1 rfl (by walk_at "vis") rfl ?_
    refine ⟨_, .inl rfl, ?_⟩
    refine c_len ?_
    refine ⟨_, rfl, ⟨by omega, by omega⟩, fun j r G' => G' = G ∧ ∃ z, r = [.sh (.lst ds), .sh (.lst ds), z], ⟨rfl, .no, rfl⟩, fun j d r3 G3 hj ⟨h1, z, h2⟩ => ?_, fun r3 G3 ⟨h1, z, h2⟩ => ?_⟩
    · subst h1 h2
      obtain ⟨jj, hj1, rfl⟩ := map_at hj
      obtain ⟨hj3, rfl⟩ := rgI_get hj1
      have hj2 : j < ds.length := by omega
      have hjd : ds[j]? = some ds[j] := List.getElem?_eq_getElem hj2
      rw [show (0 : Int) + ((j : Nat) : Int) = ((j : Nat) : Int) from Int.zero_add _]
      refine wg_name 2 nd rfl (by walk_at "vis") (by decide) (lt_ rfl) ?_
      refine wb_cons (ws_if ?_)
      refine wt_not ?_
      refine wt_val (fun _ => rfl) ?_
      refine we_cal tk c_law_alike hr rfl ?_
      refine wa_cons ?_
      refine we_ix (fun _ _ => rfl) ?_
      refine we_var 0 rfl (by walk_at "vis") rfl ?_
      refine we_var 2 rfl (by walk_at "vis") rfl ?_
      refine ⟨_, _, .inl rfl, .inl rfl, ?_⟩
      refine ixw_lst (atD_nat hjd) ?_
      refine ⟨_, _, rfl, ?_⟩
      refine wa_cons ?_
      refine we_ix (fun _ _ => rfl) ?_
      refine we_var 1 rfl (by walk_at "vis") rfl ?_
      refine we_var 2 rfl (by walk_at "vis") rfl ?_
      refine ⟨_, _, .inl rfl, .inl rfl, ?_⟩
      refine ixw_lst (atD_nat hjd) ?_
      refine ⟨_, _, rfl, ?_⟩
      refine wa_nil ?_
      refine ⟨ds[j], rfl, hok.2 _ (List.getElem_mem hj2), ?_⟩
      refine ⟨_, rfl, fun hd => absurd (show false = true from hd) Bool.false_ne_true, fun _ => ?_⟩
      refine wb_nil (wb_nil ⟨rfl, .sh (.int (j : Nat)), rfl⟩)
    · subst h1 h2
      refine wb_cons (ws_ret ?_)
      refine we_bl ?_
      exact ⟨_, rfl, hq⟩
  | dic ks xs => cases n <;> exact absurd (show false = true from hok) Bool.false_ne_true
  | ins C xs => cases n <;> exact absurd (show false = true from hok) Bool.false_ne_true
  | adr a => cases n <;> exact absurd (show false = true from hok) Bool.false_ne_true
  | obj a b c => cases n <;> exact absurd (show false = true from hok) Bool.false_ne_true
  | slo a b c e => cases n <;> exact absurd (show false = true from hok) Bool.false_ne_true
  | xdo a b => cases n <;> exact absurd (show false = true from hok) Bool.false_ne_true
  | scr a => cases n <;> exact absurd (show false = true from hok) Bool.false_ne_true
  | tab a => cases n <;> exact absurd (show false = true from hok) Bool.false_ne_true
  | hob a => cases n <;> exact absurd (show false = true from hok) Bool.false_ne_true
  | kd _ _ _ => cases n <;> exact absurd (show false = true from hok) Bool.false_ne_true
theorem ok_is_number {f : Addr} {fd : FuncData} (F : Fun K "is_number" "is_number" s_is_number f fd) (B : Bn mg) : FnOk P w K mg base (L2.CX P w) 3 f fd ["value", "lowest", "highest"] (spD K (FM cx (A := Int × Int × Int) (R := Bool) (fun a => [eI a.1, eI a.2.1, eI a.2.2]) (fun v => .sh (eB v)) (fun a => .ok (m_is_number a.1 a.2.1 a.2.2)))) := by
  refine def_ok F sc_is_number (fun ds G post px h => ?_) (fun cdv A outer s H E F0 T hr ds G post px h tk hp => ?_)
  · obtain ⟨_, rfl, _⟩ := h; rfl
  obtain ⟨⟨value1, lowest2, highest3⟩, rfl, h⟩ := h
  unfold m_is_number at h
  try dsimp only at h
  have nd := sc_is_number.nd
  refine wb_env [.sh (eI value1), .sh (eI lowest2), .sh (eI highest3)] rfl ?_
  -- 32
  refine wb_cons (ws_ret ?_)
  refine we_andP (c2 := (!false) && ((decide (lowest2 ≤ value1)) && (decide (value1 ≤ highest3)))) ?_
  refine we_isi rfl B.isinstance bt_isinstance rfl B.int bt_int ?_
  refine we_var 0 rfl (by walk_at "vis") rfl ?_
  refine ⟨_, _, _, .inl rfl, rfl, kt_int_int, ?_⟩
  refine ⟨_, rfl, fun _ => ?_, ?_⟩
  · skip
    refine we_andP (c2 := (decide (lowest2 ≤ value1)) && (decide (value1 ≤ highest3))) ?_
    refine we_not ?_
    refine we_isi rfl B.isinstance bt_isinstance rfl B.bool bt_bool ?_
    refine we_var 0 rfl (by walk_at "vis") rfl ?_
    refine ⟨_, _, _, .inl rfl, rfl, kt_int_bool, ?_⟩
    refine ⟨_, rfl, ?_⟩
    refine ⟨_, rfl, fun _ => ?_, ?_⟩
    · skip
      refine we_one ?_
      refine we_chainI (fun i j R q => opw_le q) (fun i j R q => opw_le q) ?_
      refine we_var 1 rfl (by walk_at "vis") rfl ?_
      refine we_var 0 rfl (by walk_at "vis") rfl ?_
      refine ⟨_, _, highest3, rfl, rfl, fun _ => ?_, ?_⟩
      · skip
        refine we_var 2 rfl (by walk_at "vis") rfl ?_
        exact ⟨rfl, rfl, rfl⟩
      exact ⟨rfl, rfl, rfl⟩
    exact ⟨rfl, rfl, rfl⟩
  refine ⟨_, rfl, ?_⟩
  exact h
theorem ok_Ruler_init {f : Addr} {fd : FuncData} (F : Fun K "__init__" "Ruler.__init__" s_Ruler_init f fd) (B : Bn mg) (c_is_number : Cal P w K mg base "is_number" 3 ["value", "lowest", "highest"] (FM cx (A := Int × Int × Int) (R := Bool) (fun a => [eI a.1, eI a.2.1, eI a.2.2]) (fun v => .sh (eB v)) (fun a => .ok (m_is_number a.1 a.2.1 a.2.2)))) (cl_Ruler : Cl_Ruler K C_Ruler) {t_MAX_ERROR : Tok} (m_MAX_ERROR : mg "MAX_ERROR" = some (.int 9 t_MAX_ERROR)) {t_MAX_LENGTH : Tok} (m_MAX_LENGTH : mg "MAX_LENGTH" = some (.int 300 t_MAX_LENGTH)) {t_MAX_MARKS : Tok} (m_MAX_MARKS : mg "MAX_MARKS" = some (.int 12 t_MAX_MARKS)) {t_MIN_MARKS : Tok} (m_MIN_MARKS : mg "MIN_MARKS" = some (.int 2 t_MIN_MARKS)) : FnOk P w K mg base (L2.CX P w) 5 f fd ["self", "marks", "error"] (spI K C_Ruler (FMI cx (A := (List Int) × Int) (R := Rul) (fun a => [(eT eI) a.1, eI a.2]) (fun r => [.int r.error, .tup (r.marks.map D.int)]) (fun a => mk_Ruler a.1 a.2))) := by
  obtain ⟨q_Ruler_0, sl_Ruler_0⟩ := cl_Ruler.s0
  obtain ⟨q_Ruler_1, sl_Ruler_1⟩ := cl_Ruler.s1
  have nd := sc_Ruler_init.nd
  refine init2r_ok F sc_Ruler_init cl_Ruler.cls sl_Ruler_1 sl_Ruler_0 (fun ds G post px h => ?_) ((defBody s_Ruler_init).take 3) ((defBody s_Ruler_init).getD 3 (.Pass ⟨0, 0, 0, 0⟩)) ((defBody s_Ruler_init).getD 4 (.Pass ⟨0, 0, 0, 0⟩)) 1 2 rfl (fun cdv A outer s H E F0 T hr px => ⟨SlX.ps_sl (pe_var rfl (by walk_at "vis")) (pe_var rfl (by walk_at "vis")), SlX.ps_sl (pe_var rfl (by walk_at "vis")) (pe_var rfl (by walk_at "vis")), fun a0 ds G post h tk hp => ?_⟩)
  · obtain ⟨_, rfl, _⟩ := h; rfl
  obtain ⟨⟨marks1, error2⟩, rfl, h⟩ := h
  unfold mk_Ruler at h
  try dsimp only at h
  refine wb_env [.sh (.adr a0), .sh ((eT eI) marks1), .sh (eI error2), .no, .no, .no] rfl ?_
  -- 42
  refine wb_forO (β := Rul) [3, 4] (σT := Unit) (fun s3 => [.sh (.adr a0), .sh ((eT eI) marks1), .sh (eI error2), .no, .no, .no]) (fun s3 => G) (eP eI eI) hp rfl ?_
  refine ti_enumT (f := eI) rfl B.enumerate ?_
  refine we_var 1 rfl (by walk_at "vis") rfl ?_
  refine ⟨marks1, _, rfl, fun hl6 => ?_⟩
  refine ⟨(penum marks1), (), _, _, _, _, rfl, (.eq (.eq (.eq (.no (.no (.no .nil)))))), rfl, h, fun s3 x5 Q' h => ?_, fun s4 h => ?_⟩
  · skip
    refine wg_pair 3 4 rfl nd rfl rfl (by walk_at "vis") (by walk_at "vis") (by decide) (by decide) (lt_ rfl) (lt_ rfl) ?_
    refine wb_env [.sh (.adr a0), .sh ((eT eI) marks1), .sh (eI error2), .sh (eI x5.1), .sh (eI x5.2), .no] rfl ?_
    -- 43
    refine wb_cons (ws_set 5 nd rfl (by walk_at "vis") ?_)
    refine we_ifN eI ?_
    refine wt_cmp (nomark _) ?_
    refine we_var 3 rfl (by walk_at "vis") rfl ?_
    refine we_int ?_
    refine ⟨_, _, .inl rfl, .inl rfl, ?_⟩
    refine opw_eqI ?_
    refine ⟨_, rfl, ?_⟩
    refine ⟨_, _, _, _, _, _, h, fun _ Q' h => ?_, fun _ Q' h => ?_, fun i7 h => ?_⟩
    · skip
      refine we_int ?_
      exact ⟨_, rfl, rfl, rfl, h⟩
    · skip
      refine we_bin ?_
      refine we_ix (fun _ _ => rfl) ?_
      refine we_var 1 rfl (by walk_at "vis") rfl ?_
      refine we_bin ?_
      refine we_var 3 rfl (by walk_at "vis") rfl ?_
      refine we_int ?_
      refine ⟨_, _, .inl rfl, .inl rfl, ?_⟩
      refine opw_sub ?_
      obtain ⟨x8, hx8, h⟩ := Out.gt h
      refine ⟨_, _, .inl rfl, .inl rfl, ?_⟩
      refine t_ixT (f := eI) hx8 ?_
      refine we_int ?_
      refine ⟨_, _, .inl rfl, .inl rfl, ?_⟩
      refine opw_add ?_
      exact ⟨_, rfl, rfl, rfl, h⟩
    refine ⟨lt_ rfl, _, rfl, ?_⟩
    refine wb_env [.sh (.adr a0), .sh ((eT eI) marks1), .sh (eI error2), .sh (eI x5.1), .sh (eI x5.2), .sh (eI i7)] rfl ?_
    -- 44
    refine wb_cons (ws_if ?_)
    refine wt_w ?_
    refine ww_orB ?_
    refine wt_cmp (nomark _) ?_
    refine we_var 3 rfl (by walk_at "vis") rfl ?_
    refine we_globI rfl m_MAX_MARKS ?_
    refine ⟨_, _, .inl rfl, .inl rfl, ?_⟩
    refine opw_eqI ?_
    refine ⟨_, rfl, ?_⟩
    refine ⟨(!(m_is_number x5.2 i7 (if (decide (x5.1 = (0 : Int))) = true then (0 : Int) else (300 : Int)))), fun _ => ?_, ?_⟩
    · skip
      refine ww_or1 ?_
      refine wt_not ?_
      refine wt_val (fun _ => rfl) ?_
      refine we_cal tk c_is_number hr rfl ?_
      refine wa_cons ?_
      refine we_var 4 rfl (by walk_at "vis") rfl ?_
      refine ⟨_, _, rfl, ?_⟩
      refine wa_cons ?_
      refine we_var 5 rfl (by walk_at "vis") rfl ?_
      refine ⟨_, _, rfl, ?_⟩
      refine wa_cons ?_
      refine we_ifP (en := eI) (va := (0 : Int)) (vb := (300 : Int)) ?_
      refine wt_cmp (nomark _) ?_
      refine we_var 3 rfl (by walk_at "vis") rfl ?_
      refine we_int ?_
      refine ⟨_, _, .inl rfl, .inl rfl, ?_⟩
      refine opw_eqI ?_
      refine ⟨_, rfl, ?_⟩
      refine ⟨fun _ => ?_, fun _ => ?_, ?_⟩
      · skip
        refine we_int ?_
        exact ⟨rfl, rfl, rfl⟩
      · skip
        refine we_globI rfl m_MAX_LENGTH ?_
        exact ⟨rfl, rfl, rfl⟩
      refine ⟨_, _, rfl, ?_⟩
      refine wa_nil ?_
      refine ⟨(x5.2, i7, if (decide (x5.1 = (0 : Int))) = true then (0 : Int) else (300 : Int)), rfl, ?_⟩
      refine ⟨_, rfl, ?_⟩
      exact ⟨rfl, rfl, rfl⟩
    refine ⟨fun hc => ?_, fun hc => ?_⟩
    · skip
      have h := (Out.iteb h).1 hc
      -- 45
      exact h.elim
    have h := (Out.iteb h).2 hc
    refine wb_nil ?_
    exact wb_nil ⟨(), (.eq (.eq (.eq (.no (.no (.no .nil)))))), rfl, h⟩
  -- 46
  refine wb_cons (ws_if ?_)
  refine wt_cmp (nomark _) ?_
  refine we_b1 (x := "len") (id := "len") rfl B.len bt_len ?_
  refine we_var 1 rfl (by walk_at "vis") rfl ?_
  refine ⟨_, .inl rfl, ?_⟩
  refine t_lenT (f := eI) marks1 ?_
  refine we_globI rfl m_MIN_MARKS ?_
  refine ⟨_, _, .inl rfl, .inl rfl, ?_⟩
  refine opw_lt ?_
  refine ⟨_, rfl, ?_⟩
  refine ⟨fun hc => ?_, fun hc => ?_⟩
  · skip
    have h := (Out.iteb h).1 hc
    -- 47
    exact h.elim
  have h := (Out.iteb h).2 hc
  refine wb_nil ?_
  -- 48
  refine wb_cons (ws_if ?_)
  refine wt_not ?_
  refine wt_val (fun _ => rfl) ?_
  refine we_cal tk c_is_number hr rfl ?_
  refine wa_cons ?_
  refine we_var 2 rfl (by walk_at "vis") rfl ?_
  refine ⟨_, _, rfl, ?_⟩
  refine wa_cons ?_
  refine we_int ?_
  refine ⟨_, _, rfl, ?_⟩
  refine wa_cons ?_
  refine we_globI rfl m_MAX_ERROR ?_
  refine ⟨_, _, rfl, ?_⟩
  refine wa_nil ?_
  refine ⟨(error2, (0 : Int), (9 : Int)), rfl, ?_⟩
  refine ⟨_, rfl, ?_⟩
  refine ⟨fun hc => ?_, fun hc => ?_⟩
  · skip
    have h := (Out.iteb h).1 hc
    -- 49
    exact h.elim
  have h := (Out.iteb h).2 hc
  refine wb_nil ?_
  exact wb_nil ⟨rfl, _, _, rfl, rfl, h⟩
theorem ok_Ruler_marks {f : Addr} {fd : FuncData} (F : Fun K "marks" "Ruler.marks" s_Ruler_marks f fd) (B : Bn mg) (cl_Ruler : Cl_Ruler K C_Ruler) : FnOk P w K mg base (L2.CX P w) 3 f fd ["self"] (spD K (FM cx (A := Rul) (R := List Int) (fun a => [(eRul C_Ruler) a]) (fun v => .sh ((eT eI) v)) (fun a => .ok (m_Ruler_marks a)))) := by
  refine def_ok F sc_Ruler_marks (fun ds G post px h => ?_) (fun cdv A outer s H E F0 T hr ds G post px h tk hp => ?_)
  · obtain ⟨_, rfl, _⟩ := h; rfl
  obtain ⟨self1, rfl, h⟩ := h
  unfold m_Ruler_marks at h
  try dsimp only at h
  have nd := sc_Ruler_marks.nd
  obtain ⟨q_Ruler_0, sl_Ruler_0⟩ := cl_Ruler.s0
  obtain ⟨q_Ruler_1, sl_Ruler_1⟩ := cl_Ruler.s1
  refine wb_env [.sh ((eRul C_Ruler) self1)] rfl ?_
  -- 55
  refine wb_cons (ws_ret ?_)
  refine we_fld 1 cl_Ruler.cls sl_Ruler_1 ?_
  refine we_var 0 rfl (by walk_at "vis") rfl ?_
  refine ⟨_, _, rfl, rfl, ?_⟩
  refine ⟨_, rfl, ?_⟩
  exact h
theorem ok_spread_of {f : Addr} {fd : FuncData} (F : Fun K "spread_of" "spread_of" s_spread_of f fd) (B : Bn mg) : FnOk P w K mg base (L2.CX P w) 3 f fd ["marks"] (spD K (FM cx (A := List Int) (R := List Int) (fun a => [(eT eI) a]) (fun v => .fr ((eL eI) v)) (fun a => m_spread_of a))) := by
  refine def_ok F sc_spread_of (fun ds G post px h => ?_) (fun cdv A outer s H E F0 T hr ds G post px h tk hp => ?_)
  · obtain ⟨_, rfl, _⟩ := h; rfl
  obtain ⟨marks1, rfl, h⟩ := h
  unfold m_spread_of at h
  try dsimp only at h
  have nd := sc_spread_of.nd
  refine wb_env [.sh ((eT eI) marks1), .no, .no, .no, .no] rfl ?_
  -- 34
  refine wb_cons (ws_set 1 nd rfl (by walk_at "vis") ?_)
  refine we_lst ?_
  refine wa_nil ?_
  refine ⟨by decide, ?_⟩
  refine ⟨lt_ rfl, _, rfl, ?_⟩
  refine wb_let h (fun found2 => [.sh ((eT eI) marks1), .own ((eL eI) found2), .no, .no, .no]) rfl fun found2 h => ?_
  -- 35
  refine wb_forO (β := List Int) [2, 3] (σT := List Int) (fun s3 => [.sh ((eT eI) marks1), .own ((eL eI) s3), .no, .no, .no]) (fun s3 => G) (eP eI eI) hp rfl ?_
  refine ti_enumT (f := eI) rfl B.enumerate ?_
  refine we_var 0 rfl (by walk_at "vis") rfl ?_
  refine ⟨marks1, _, rfl, fun hl6 => ?_⟩
  refine ⟨(penum marks1), found2, _, _, _, _, rfl, (.eq (.eq (.no (.no (.no .nil))))), rfl, h, fun s3 x5 Q' h => ?_, fun s4 h => ?_⟩
  · skip
    refine wg_pair 2 3 rfl nd rfl rfl (by walk_at "vis") (by walk_at "vis") (by decide) (by decide) (lt_ rfl) (lt_ rfl) ?_
    refine wb_env [.sh ((eT eI) marks1), .own ((eL eI) s3), .sh (eI x5.1), .sh (eI x5.2), .no] rfl ?_
    -- 36
    refine wb_cons (ws_expr ?_)
    refine we_extendT (f := eI) ?_
    refine we_var 1 rfl (by walk_at "vis") rfl ?_
    refine ⟨_, s3, rfl, rfl, ?_⟩
    refine we_lcQ [("other", 4)] rfl nd (blkOk_by (by rfl)) (lc0_pre [("other", 4)] [.sh ((eT eI) marks1), .own ((eL eI) s3), .sh (eI x5.1), .sh (eI x5.2), .no] (en := eI) eI (fun (x8 : Int) => x8 - x5.2) ?_)
    refine ti_tup (f := eI) ?_
    refine we_slice ?_
    refine we_var 0 rfl (by walk_at "vis") rfl ?_
    refine wo_some ?_
    refine we_bin ?_
    refine we_var 2 rfl (by walk_at "vis") rfl ?_
    refine we_int ?_
    refine ⟨_, _, .inl rfl, .inl rfl, ?_⟩
    refine opw_add ?_
    refine ⟨_, rfl, ?_⟩
    refine wo_none ?_
    refine ⟨_, .inl rfl, ?_⟩
    refine t_slT (f := eI) (xs := marks1) ?_
    refine ⟨(pcut marks1 (some (x5.1 + (1 : Int))) none), _, rfl, fun hl9 => ?_⟩
    refine ⟨(pcut marks1 (some (x5.1 + (1 : Int))) none), rfl, hl9, Wk.refl _, fun x8 => ?_, ?_⟩
    · skip
      rintro Y ⟨s1, H1, C1, cl, fp, rfl⟩
      refine wg_name 4 nd rfl (by walk_at "vis") (by decide) (lt_ rfl) ?_
      rintro Y ⟨s1, H1, C1, cl, fp, rfl⟩
      refine we_bin ?_
      refine we_var 4 rfl (by walk_at "vis") rfl ?_
      refine we_var 3 rfl (by walk_at "vis") rfl ?_
      refine ⟨_, _, .inl rfl, .inl rfl, ?_⟩
      refine opw_sub ?_
      exact ⟨_, rfl, Wk.refl _, rfl⟩
    obtain ⟨g10, h⟩ := Out.gd h
    refine ⟨((pcut marks1 (some (x5.1 + (1 : Int))) none).map (fun (x8 : Int) => x8 - x5.2)), _, s3, rfl, rfl, g10, ?_⟩
    refine wb_let h (fun found11 => [.sh ((eT eI) marks1), .own ((eL eI) found11), .sh (eI x5.1), .sh (eI x5.2), .no]) rfl fun found11 h => ?_
    exact wb_nil ⟨found11, (.eq (.eq (.no (.no (.no .nil))))), rfl, h⟩
  -- 37
  refine wb_cons (ws_ret ?_)
  refine we_b1 (x := "sorted") (id := "sorted") rfl B.sorted bt_sorted ?_
  refine we_var 1 rfl (by walk_at "vis") rfl ?_
  refine ⟨_, .inl rfl, ?_⟩
  refine c_sorted (ns := s4) ?_
  refine ⟨_, rfl, ?_⟩
  exact h
theorem ok_Ruler_spans {f : Addr} {fd : FuncData} (F : Fun K "spans" "Ruler.spans" s_Ruler_spans f fd) (B : Bn mg) (c_spread_of : Cal P w K mg base "spread_of" 3 ["marks"] (FM cx (A := List Int) (R := List Int) (fun a => [(eT eI) a]) (fun v => .fr ((eL eI) v)) (fun a => m_spread_of a))) (cl_Ruler : Cl_Ruler K C_Ruler) : FnOk P w K mg base (L2.CX P w) 5 f fd ["self"] (spD K (FM cx (A := Rul) (R := List Int) (fun a => [(eRul C_Ruler) a]) (fun v => .sh ((eT eI) v)) (fun a => m_Ruler_spans a))) := by
  refine def_ok F sc_Ruler_spans (fun ds G post px h => ?_) (fun cdv A outer s H E F0 T hr ds G post px h tk hp => ?_)
  · obtain ⟨_, rfl, _⟩ := h; rfl
  obtain ⟨self1, rfl, h⟩ := h
  unfold m_Ruler_spans at h
  try dsimp only at h
  have nd := sc_Ruler_spans.nd
  obtain ⟨q_Ruler_0, sl_Ruler_0⟩ := cl_Ruler.s0
  obtain ⟨q_Ruler_1, sl_Ruler_1⟩ := cl_Ruler.s1
  refine wb_env [.sh ((eRul C_Ruler) self1), .no] rfl ?_
  -- 71
  refine wb_cons (ws_ret ?_)
  refine we_t1 (x := "tuple") (id := "tuple") rfl B.tuple bt_tuple ?_
  refine we_b1 (x := "sorted") (id := "sorted") rfl B.sorted bt_sorted ?_
  refine we_lock ?_
  refine we_dc0 [("span", 1)] [.sh ((eRul C_Ruler) self1), .no] (en := eI) kI eB kI_inj (fun (x2 : Int) => (x2, true)) rfl nd (blkOk_by (by rfl)) ?_
  refine ti_lst (f := eI) ?_
  refine we_cal tk c_spread_of hr rfl ?_
  refine wa_cons ?_
  refine we_fld 1 cl_Ruler.cls sl_Ruler_1 ?_
  refine we_var 0 rfl (by walk_at "vis") rfl ?_
  refine ⟨_, _, rfl, rfl, ?_⟩
  refine ⟨_, _, rfl, ?_⟩
  refine wa_nil ?_
  refine ⟨self1.marks, rfl, (Out.sb h).imp (fun r3 h => ?_) (fun _ he => he)⟩
  refine ⟨r3, _, rfl, fun hl4 => ?_⟩
  refine ⟨r3, rfl, hl4, Wk.refl _, fun x2 => ?_, ?_⟩
  · skip
    rintro Y ⟨s1, H1, C1, cl, fp, rfl⟩
    refine wg_name 1 nd rfl (by walk_at "vis") (by decide) (lt_ rfl) ?_
    rintro Y ⟨s1, H1, C1, cl, fp, rfl⟩
    refine we_var 1 rfl (by walk_at "vis") rfl ?_
    refine ⟨rfl, ?_⟩
    rintro Y ⟨s1, H1, C1, cl, fp, rfl⟩
    refine we_bl ?_
    exact ⟨_, rfl, Wk.refl _, rfl⟩
  refine ⟨_, _, rfl, ?_⟩
  refine ⟨_, .inl rfl, ?_⟩
  refine t_sortedD (f := eB) (dmk (r3.map (fun (x2 : Int) => (x2, true)))) rfl ?_
  refine ⟨_, .inl rfl, ?_⟩
  refine c_tuple ?_
  refine ⟨_, rfl, ?_⟩
  exact h
theorem ok_is_name {f : Addr} {fd : FuncData} (F : Fun K "is_name" "is_name" s_is_name f fd) (B : Bn mg) {t_LETTERS : Tok} (m_LETTERS : mg "LETTERS" = some (.str "abcdefghijklmnopqrstuvwxyz" t_LETTERS)) {t_MAX_LETTERS : Tok} (m_MAX_LETTERS : mg "MAX_LETTERS" = some (.int 8 t_MAX_LETTERS)) : FnOk P w K mg base (L2.CX P w) 3 f fd ["name"] (spD K (FM cx (A := S) (R := Bool) (fun a => [eZ a]) (fun v => .sh (eB v)) (fun a => m_is_name a))) := by
  refine def_ok F sc_is_name (fun ds G post px h => ?_) (fun cdv A outer s H E F0 T hr ds G post px h tk hp => ?_)
  · obtain ⟨_, rfl, _⟩ := h; rfl
  obtain ⟨name1, rfl, h⟩ := h
  unfold m_is_name at h
  try dsimp only at h
  have nd := sc_is_name.nd
  refine wb_env [.sh (eZ name1), .no] rfl ?_
  -- 129
  refine wb_cons (ws_if ?_)
  refine wt_w ?_
  refine ww_orN ?_
  refine wt_not ?_
  refine wt_val (fun _ => rfl) ?_
  refine we_isi rfl B.isinstance bt_isinstance rfl B.str bt_str ?_
  refine we_var 0 rfl (by walk_at "vis") rfl ?_
  refine ⟨_, _, _, .inl rfl, rfl, kt_str_str, ?_⟩
  refine ⟨_, rfl, ?_⟩
  refine ⟨_, _, _, _, _, h, fun _ Q' h => ?_, fun c2 h => ?_⟩
  · skip
    refine ww_or1 ?_
    refine wt_not ?_
    refine wt_chainI (fun i j R q => opw_le q) (fun i j R q => opw_le q) ?_
    refine we_int ?_
    refine we_b1 (x := "len") (id := "len") rfl B.len bt_len ?_
    refine we_var 0 rfl (by walk_at "vis") rfl ?_
    refine ⟨_, .inl rfl, ?_⟩
    obtain ⟨g3, h⟩ := Out.gd h
    refine t_lenS (x := name1) g3 ?_
    refine ⟨_, _, (8 : Int), rfl, rfl, fun _ => ?_, ?_⟩
    · skip
      refine we_globI rfl m_MAX_LETTERS ?_
      exact ⟨rfl, rfl, rfl⟩
    exact ⟨rfl, rfl, h⟩
  refine ⟨fun hc => ?_, fun hc => ?_⟩
  · skip
    have h := (Out.iteb h).1 hc
    -- 130
    refine wb_cons (ws_ret ?_)
    refine we_bl ?_
    refine ⟨_, rfl, ?_⟩
    exact h
  have h := (Out.iteb h).2 hc
  refine wb_nil ?_
  -- 131
  refine wb_cons (ws_ret ?_)
  refine we_cmp (nomark _) ?_
  refine we_lcQ [("letter", 1)] rfl nd (blkOk_by (by rfl)) (lc1_pre [("letter", 1)] [.sh (eZ name1), .no] (en := eC) eC (fun x4 => !decide (x4 ∈ chrs z_abcdefghijklmnopqrst)) (fun (x4 : Chr) => x4) ?_)
  refine ti_str ?_
  refine we_var 0 rfl (by walk_at "vis") rfl ?_
  refine ⟨name1, _, rfl, ?_⟩
  obtain ⟨g5, h⟩ := Out.gd h
  refine ⟨(chrs name1), rfl, g5, Wk.refl _, fun x4 => ?_, ?_⟩
  · skip
    rintro Y ⟨s1, H1, C1, cl, fp, rfl⟩
    refine wg_name 1 nd rfl (by walk_at "vis") (by decide) (lt_ rfl) ?_
    rintro Y ⟨s1, H1, C1, cl, fp, rfl⟩
    refine wt_cmp rfl ?_
    refine we_var 1 rfl (by walk_at "vis") rfl ?_
    refine we_globS rfl m_LETTERS ?_
    refine ⟨_, _, .inl rfl, .inl rfl, ?_⟩
    refine t_ninS (c := x4) (x := z_abcdefghijklmnopqrst) ?_
    refine ⟨_, rfl, ?_⟩
    refine ⟨rfl, fun _ => ?_, fun _ => ?_⟩
    · skip
      rintro Y ⟨s1, H1, C1, cl, fp, rfl⟩
      refine we_var 1 rfl (by walk_at "vis") rfl ?_
      exact ⟨_, rfl, Wk.refl _, rfl⟩
    exact ⟨Wk.refl _, rfl⟩
  refine we_lst ?_
  refine wa_nil ?_
  refine ⟨by decide, ?_⟩
  refine ⟨_, _, .inl rfl, .inl rfl, ?_⟩
  refine opw_eqC (eqc_lst eqc_chr) (by exact hr.units) (((chrs name1).filter (fun (x4 : Chr) => !decide (x4 ∈ chrs z_abcdefghijklmnopqrst))).map (fun (x4 : Chr) => x4)) ([] : List Chr) ?_
  refine ⟨_, rfl, ?_⟩
  exact h
theorem ok_Rack_init {f : Addr} {fd : FuncData} (F : Fun K "__init__" "Rack.__init__" s_Rack_init f fd) (B : Bn mg) (c_is_name : Cal P w K mg base "is_name" 3 ["name"] (FM cx (A := S) (R := Bool) (fun a => [eZ a]) (fun v => .sh (eB v)) (fun a => m_is_name a))) (cl_Rack : Cl_Rack K C_Rack) {t_MAX_RULERS : Tok} (m_MAX_RULERS : mg "MAX_RULERS" = some (.int 6 t_MAX_RULERS)) : FnOk P w K mg base (L2.CX P w) 5 f fd ["self", "rulers"] (spI K C_Rack (FMI cx (A := List (S × Rul)) (R := Rak) (fun a => [(eD kZ (eRul C_Ruler)) a]) (fun r => [eD kZ (eRul C_Ruler) r.held]) (fun a => mk_Rack a))) := by
  obtain ⟨q_Rack_0, sl_Rack_0⟩ := cl_Rack.s0
  have nd := sc_Rack_init.nd
  refine init1_ok F sc_Rack_init cl_Rack.cls sl_Rack_0 (fun ds G post px h => ?_) ((defBody s_Rack_init).take 2) ((defBody s_Rack_init).getD 2 (.Pass ⟨0, 0, 0, 0⟩)) (asgV ((defBody s_Rack_init).getD 2 (.Pass ⟨0, 0, 0, 0⟩))) rfl (fun cdv A outer s H E F0 T hr px => ⟨SlX.ps_sl (pe_var rfl (by walk_at "vis")) peR, fun a0 ds G post h tk hp => ?_⟩)
  · obtain ⟨_, rfl, _⟩ := h; rfl
  obtain ⟨rulers1, rfl, h⟩ := h
  unfold mk_Rack at h
  try dsimp only at h
  refine wb_env [.sh (.adr a0), .sh ((eD kZ (eRul C_Ruler)) rulers1), .no, .no] rfl ?_
  -- 136
  refine wb_forO (β := Rak) [2, 3] (σT := Unit) (fun s2 => [.sh (.adr a0), .sh ((eD kZ (eRul C_Ruler)) rulers1), .no, .no]) (fun s2 => G) (eP eI eZ) hp rfl ?_
  refine ti_enumD (k := kZ) (f := (eRul C_Ruler)) rfl B.enumerate ?_
  refine we_var 1 rfl (by walk_at "vis") rfl ?_
  refine ⟨rulers1, _, rfl, fun hl5 => ?_⟩
  refine ⟨(penum (rulers1.map (·.1))), (), _, _, _, _, rfl, (.eq (.eq (.no (.no .nil)))), rfl, h, fun s2 x4 Q' h => ?_, fun s3 h => ?_⟩
  · skip
    refine wg_pair 2 3 rfl nd rfl rfl (by walk_at "vis") (by walk_at "vis") (by decide) (by decide) (lt_ rfl) (lt_ rfl) ?_
    refine wb_env [.sh (.adr a0), .sh ((eD kZ (eRul C_Ruler)) rulers1), .sh (eI x4.1), .sh (eZ x4.2)] rfl ?_
    -- 137
    refine wb_cons (ws_if ?_)
    refine wt_w ?_
    refine ww_orN ?_
    refine wt_cmp (nomark _) ?_
    refine we_var 2 rfl (by walk_at "vis") rfl ?_
    refine we_globI rfl m_MAX_RULERS ?_
    refine ⟨_, _, .inl rfl, .inl rfl, ?_⟩
    refine opw_eqI ?_
    refine ⟨_, rfl, ?_⟩
    refine ⟨_, _, _, _, _, h, fun _ Q' h => ?_, fun c6 h => ?_⟩
    · skip
      refine ww_or1 ?_
      refine wt_not ?_
      refine wt_val (fun _ => rfl) ?_
      refine we_cal tk c_is_name hr rfl ?_
      refine wa_cons ?_
      refine we_var 3 rfl (by walk_at "vis") rfl ?_
      refine ⟨_, _, rfl, ?_⟩
      refine wa_nil ?_
      refine ⟨x4.2, rfl, (Out.sb h).imp (fun r7 h => ?_) (fun _ he => he)⟩
      refine ⟨_, rfl, ?_⟩
      exact ⟨rfl, rfl, h⟩
    refine ⟨fun hc => ?_, fun hc => ?_⟩
    · skip
      have h := (Out.iteb h).1 hc
      -- 138
      exact h.elim
    have h := (Out.iteb h).2 hc
    refine wb_nil ?_
    exact wb_nil ⟨(), (.eq (.eq (.no (.no .nil)))), rfl, h⟩
  -- 139
  refine wb_cons (ws_if ?_)
  refine wt_cmp (nomark _) ?_
  refine we_var 1 rfl (by walk_at "vis") rfl ?_
  refine we_lock ?_
  refine we_dnew ?_
  refine ⟨_, _, rfl, ?_⟩
  refine ⟨_, _, .inl rfl, .inl rfl, ?_⟩
  refine t_deq0 (k := kZ) (f := (eRul C_Ruler)) (by exact hr.units) rulers1 ?_
  refine ⟨_, rfl, ?_⟩
  refine ⟨fun hc => ?_, fun hc => ?_⟩
  · skip
    have h := (Out.iteb h).1 hc
    -- 140
    exact h.elim
  have h := (Out.iteb h).2 hc
  refine wb_nil ?_
  refine wb_nil ?_
  refine we_lock ?_
  refine we_dcS [("name", 3)] [.sh (.adr a0), .sh ((eD kZ (eRul C_Ruler)) rulers1), .no, .no] (fun _ : Unit => G) (en := eZ) kZ (eRul C_Ruler) kZ_inj rfl nd (blkOk_by (by rfl)) ?_
  refine ti_lst (f := eZ) ?_
  refine we_b1 (x := "sorted") (id := "sorted") rfl B.sorted bt_sorted ?_
  refine we_var 1 rfl (by walk_at "vis") rfl ?_
  refine ⟨_, .inl rfl, ?_⟩
  obtain ⟨g9, h⟩ := Out.gd h
  refine t_sortedDS (f := (eRul C_Ruler)) rulers1 rfl g9 ?_
  refine ⟨(ssort (rulers1.map (·.1))), _, rfl, fun hl10 => ?_⟩
  refine ⟨_, (ssort (rulers1.map (·.1))), (), _, _, _, _, rfl, hl10, Wk.refl _, rfl, h, fun s11 x8 Q' h => ?_, fun l12 h => ?_⟩
  · skip
    rintro Y ⟨s1, H1, C1, cl, fp, rfl⟩
    refine wg_name 3 nd rfl (by walk_at "vis") (by decide) (lt_ rfl) ?_
    rintro Y ⟨s1, H1, C1, cl, fp, rfl⟩
    refine we_var 3 rfl (by walk_at "vis") rfl ?_
    refine ⟨x8, rfl, ?_⟩
    rintro Y ⟨s1, H1, C1, cl, fp, rfl⟩
    refine we_dget (k := kZ) (f := (eRul C_Ruler)) kZ_inj (by exact hr.units) (fun _ _ => rfl) ?_
    refine we_var 1 rfl (by walk_at "vis") rfl ?_
    refine we_var 3 rfl (by walk_at "vis") rfl ?_
    obtain ⟨x13, hx13, h⟩ := Out.gt h
    refine ⟨rulers1, x8, _, .inl rfl, rfl, hx13, ?_⟩
    exact ⟨x13, (), _, rfl, Wk.refl _, rfl, h⟩
  refine ⟨_, _, rfl, ?_⟩
  exact ⟨_, _, rfl, rfl, h⟩
theorem ok_Rack_names {f : Addr} {fd : FuncData} (F : Fun K "names" "Rack.names" s_Rack_names f fd) (B : Bn mg) (cl_Rack : Cl_Rack K C_Rack) : FnOk P w K mg base (L2.CX P w) 3 f fd ["self"] (spD K (FM cx (A := Rak) (R := List S) (fun a => [(eRak C_Rack C_Ruler) a]) (fun v => .sh ((eT eZ) v)) (fun a => .ok (m_Rack_names a)))) := by
  refine def_ok F sc_Rack_names (fun ds G post px h => ?_) (fun cdv A outer s H E F0 T hr ds G post px h tk hp => ?_)
  · obtain ⟨_, rfl, _⟩ := h; rfl
  obtain ⟨self1, rfl, h⟩ := h
  unfold m_Rack_names at h
  try dsimp only at h
  have nd := sc_Rack_names.nd
  obtain ⟨q_Rack_0, sl_Rack_0⟩ := cl_Rack.s0
  refine wb_env [.sh ((eRak C_Rack C_Ruler) self1)] rfl ?_
  -- 145
  refine wb_cons (ws_ret ?_)
  refine we_t1 (x := "tuple") (id := "tuple") rfl B.tuple bt_tuple ?_
  refine we_fld 0 cl_Rack.cls sl_Rack_0 ?_
  refine we_var 0 rfl (by walk_at "vis") rfl ?_
  refine ⟨_, _, rfl, rfl, ?_⟩
  refine ⟨_, .inl rfl, ?_⟩
  refine t_tupleD (k := kZ) (f := (eRul C_Ruler)) self1.held rfl ?_
  refine ⟨_, rfl, ?_⟩
  exact h
theorem ok_Rack_steps {f : Addr} {fd : FuncData} (F : Fun K "steps" "Rack.steps" s_Rack_steps f fd) (B : Bn mg) (cl_Rack : Cl_Rack K C_Rack) (cl_Ruler : Cl_Ruler K C_Ruler) (p_Ruler_spans : PropD P w K mg base C_Ruler "spans" 5 (FM cx (A := Rul) (R := List Int) (fun a => [(eRul C_Ruler) a]) (fun v => .sh ((eT eI) v)) (fun a => m_Ruler_spans a))) : FnOk P w K mg base (L2.CX P w) 8 f fd ["self"] (spD K (FM cx (A := Rak) (R := List ((S × Int))) (fun a => [(eRak C_Rack C_Ruler) a]) (fun v => .fr ((eL (eP eZ eI)) v)) (fun a => m_Rack_steps a))) := by
  refine def_ok F sc_Rack_steps (fun ds G post px h => ?_) (fun cdv A outer s H E F0 T hr ds G post px h tk hp => ?_)
  · obtain ⟨_, rfl, _⟩ := h; rfl
  obtain ⟨self1, rfl, h⟩ := h
  unfold m_Rack_steps at h
  try dsimp only at h
  have nd := sc_Rack_steps.nd
  obtain ⟨q_Rack_0, sl_Rack_0⟩ := cl_Rack.s0
  obtain ⟨q_Ruler_0, sl_Ruler_0⟩ := cl_Ruler.s0
  obtain ⟨q_Ruler_1, sl_Ruler_1⟩ := cl_Ruler.s1
  refine wb_env [.sh ((eRak C_Rack C_Ruler) self1), .no, .no, .no, .no] rfl ?_
  -- 149
  refine wb_cons (ws_set 1 nd rfl (by walk_at "vis") ?_)
  refine we_lst ?_
  refine wa_nil ?_
  refine ⟨by decide, ?_⟩
  refine ⟨lt_ rfl, _, rfl, ?_⟩
  refine wb_let h (fun found2 => [.sh ((eRak C_Rack C_Ruler) self1), .own ((eL (eP eZ eI)) found2), .no, .no, .no]) rfl fun found2 h => ?_
  -- 150
  refine wb_forO (β := List ((S × Int))) [2, 3] (σT := List ((S × Int))) (fun s3 => [.sh ((eRak C_Rack C_Ruler) self1), .own ((eL (eP eZ eI)) s3), .no, .no, .no]) (fun s3 => G) (eP eZ (eRul C_Ruler)) hp rfl ?_
  refine ti_items (k := kZ) (f := (eRul C_Ruler)) ?_
  refine we_fld 0 cl_Rack.cls sl_Rack_0 ?_
  refine we_var 0 rfl (by walk_at "vis") rfl ?_
  refine ⟨_, _, rfl, rfl, ?_⟩
  refine ⟨self1.held, _, rfl, fun hl6 => ?_⟩
  refine ⟨self1.held, found2, _, _, _, _, rfl, (.eq (.eq (.no (.no (.no .nil))))), rfl, h, fun s3 x5 Q' h => ?_, fun s4 h => ?_⟩
  · skip
    refine wg_pair 2 3 rfl nd rfl rfl (by walk_at "vis") (by walk_at "vis") (by decide) (by decide) (lt_ rfl) (lt_ rfl) ?_
    refine wb_env [.sh ((eRak C_Rack C_Ruler) self1), .own ((eL (eP eZ eI)) s3), .sh (eZ x5.1), .sh ((eRul C_Ruler) x5.2), .no] rfl ?_
    -- 151
    refine wb_cons (ws_expr ?_)
    refine we_extendT (f := (eP eZ eI)) ?_
    refine we_var 1 rfl (by walk_at "vis") rfl ?_
    refine ⟨_, s3, rfl, rfl, ?_⟩
    refine we_lcQ [("span", 4)] rfl nd (blkOk_by (by rfl)) (lc0_pre [("span", 4)] [.sh ((eRak C_Rack C_Ruler) self1), .own ((eL (eP eZ eI)) s3), .sh (eZ x5.1), .sh ((eRul C_Ruler) x5.2), .no] (en := eI) (eP eZ eI) (fun (x8 : Int) => (x5.1, (0 : Int) - x8)) ?_)
    refine ti_tup (f := eI) ?_
    refine we_prop cl_Ruler.cls p_Ruler_spans hr ?_
    refine we_var 3 rfl (by walk_at "vis") rfl ?_
    refine ⟨_, rfl, x5.2, rfl, (Out.nx (Out.sb h)).imp (fun r9 h => ?_) (fun _ he => he)⟩
    refine ⟨r9, _, rfl, fun hl10 => ?_⟩
    refine ⟨r9, rfl, hl10, Wk.refl _, fun x8 => ?_, ?_⟩
    · skip
      rintro Y ⟨s1, H1, C1, cl, fp, rfl⟩
      refine wg_name 4 nd rfl (by walk_at "vis") (by decide) (lt_ rfl) ?_
      rintro Y ⟨s1, H1, C1, cl, fp, rfl⟩
      refine we_tup ?_
      refine wa_cons ?_
      refine we_var 2 rfl (by walk_at "vis") rfl ?_
      refine ⟨_, _, rfl, ?_⟩
      refine wa_cons ?_
      refine we_bin ?_
      refine we_int ?_
      refine we_var 4 rfl (by walk_at "vis") rfl ?_
      refine ⟨_, _, .inl rfl, .inl rfl, ?_⟩
      refine opw_sub ?_
      refine ⟨_, _, rfl, ?_⟩
      refine wa_nil ?_
      refine ⟨lt_ rfl, ?_⟩
      exact ⟨_, rfl, Wk.refl _, rfl⟩
    obtain ⟨g11, h⟩ := Out.gd h
    refine ⟨(r9.map (fun (x8 : Int) => (x5.1, (0 : Int) - x8))), _, s3, rfl, rfl, g11, ?_⟩
    refine wb_let h (fun found12 => [.sh ((eRak C_Rack C_Ruler) self1), .own ((eL (eP eZ eI)) found12), .sh (eZ x5.1), .sh ((eRul C_Ruler) x5.2), .no]) rfl fun found12 h => ?_
    -- 152
    refine wb_cons (ws_expr ?_)
    refine we_extendT (f := (eP eZ eI)) ?_
    refine we_var 1 rfl (by walk_at "vis") rfl ?_
    refine ⟨_, found12, rfl, rfl, ?_⟩
    refine we_lcQ [("span", 4)] rfl nd (blkOk_by (by rfl)) (lc0_pre [("span", 4)] [.sh ((eRak C_Rack C_Ruler) self1), .own ((eL (eP eZ eI)) found12), .sh (eZ x5.1), .sh ((eRul C_Ruler) x5.2), .no] (en := eI) (eP eZ eI) (fun (x14 : Int) => (x5.1, x14)) ?_)
    refine ti_tup (f := eI) ?_
    refine we_prop cl_Ruler.cls p_Ruler_spans hr ?_
    refine we_var 3 rfl (by walk_at "vis") rfl ?_
    refine ⟨_, rfl, x5.2, rfl, (Out.nx (Out.sb h)).imp (fun r15 h => ?_) (fun _ he => he)⟩
    refine ⟨r15, _, rfl, fun hl16 => ?_⟩
    refine ⟨r15, rfl, hl16, Wk.refl _, fun x14 => ?_, ?_⟩
    · skip
      rintro Y ⟨s1, H1, C1, cl, fp, rfl⟩
      refine wg_name 4 nd rfl (by walk_at "vis") (by decide) (lt_ rfl) ?_
      rintro Y ⟨s1, H1, C1, cl, fp, rfl⟩
      refine we_tup ?_
      refine wa_cons ?_
      refine we_var 2 rfl (by walk_at "vis") rfl ?_
      refine ⟨_, _, rfl, ?_⟩
      refine wa_cons ?_
      refine we_var 4 rfl (by walk_at "vis") rfl ?_
      refine ⟨_, _, rfl, ?_⟩
      refine wa_nil ?_
      refine ⟨lt_ rfl, ?_⟩
      exact ⟨_, rfl, Wk.refl _, rfl⟩
    obtain ⟨g17, h⟩ := Out.gd h
    refine ⟨(r15.map (fun (x14 : Int) => (x5.1, x14))), _, found12, rfl, rfl, g17, ?_⟩
    refine wb_let h (fun found18 => [.sh ((eRak C_Rack C_Ruler) self1), .own ((eL (eP eZ eI)) found18), .sh (eZ x5.1), .sh ((eRul C_Ruler) x5.2), .no]) rfl fun found18 h => ?_
    exact wb_nil ⟨found18, (.eq (.eq (.no (.no (.no .nil))))), rfl, h⟩
  -- 153
  refine wb_cons (ws_ret ?_)
  refine we_b1 (x := "sorted") (id := "sorted") rfl B.sorted bt_sorted ?_
  refine we_var 1 rfl (by walk_at "vis") rfl ?_
  refine ⟨_, .inl rfl, ?_⟩
  refine t_sortedP s4 ?_
  refine ⟨_, rfl, ?_⟩
  exact h
theorem ok_Rack_getitem {f : Addr} {fd : FuncData} (F : Fun K "__getitem__" "Rack.__getitem__" s_Rack_getitem f fd) (B : Bn mg) (cl_Rack : Cl_Rack K C_Rack) : FnOk P w K mg base (L2.CX P w) 3 f fd ["self", "name"] (spD K (FM cx (A := Rak × S) (R := Rul) (fun a => [(eRak C_Rack C_Ruler) a.1, eZ a.2]) (fun v => .sh ((eRul C_Ruler) v)) (fun a => m_Rack___getitem a.1 a.2))) := by
  refine def_ok F sc_Rack_getitem (fun ds G post px h => ?_) (fun cdv A outer s H E F0 T hr ds G post px h tk hp => ?_)
  · obtain ⟨_, rfl, _⟩ := h; rfl
  obtain ⟨⟨self1, name2⟩, rfl, h⟩ := h
  unfold m_Rack___getitem at h
  try dsimp only at h
  have nd := sc_Rack_getitem.nd
  obtain ⟨q_Rack_0, sl_Rack_0⟩ := cl_Rack.s0
  refine wb_env [.sh ((eRak C_Rack C_Ruler) self1), .sh (eZ name2)] rfl ?_
  -- 156
  refine wb_cons (ws_if ?_)
  refine wt_cmp rfl ?_
  refine we_var 1 rfl (by walk_at "vis") rfl ?_
  refine we_fld 0 cl_Rack.cls sl_Rack_0 ?_
  refine we_var 0 rfl (by walk_at "vis") rfl ?_
  refine ⟨_, _, rfl, rfl, ?_⟩
  refine ⟨_, _, .inl rfl, .inl rfl, ?_⟩
  refine opw_dnin (k := kZ) (f := (eRul C_Ruler)) (kvs := self1.held) (x := name2) kZ_inj (by exact hr.units) ?_
  refine ⟨_, rfl, ?_⟩
  refine ⟨fun hc => ?_, fun hc => ?_⟩
  · skip
    have h := (Out.iteb h).1 hc
    -- 157
    exact h.elim
  have h := (Out.iteb h).2 hc
  refine wb_nil ?_
  -- 158
  refine wb_cons (ws_ret ?_)
  refine we_dget (k := kZ) (f := (eRul C_Ruler)) kZ_inj (by exact hr.units) (fun _ _ => rfl) ?_
  refine we_fld 0 cl_Rack.cls sl_Rack_0 ?_
  refine we_var 0 rfl (by walk_at "vis") rfl ?_
  refine ⟨_, _, rfl, rfl, ?_⟩
  refine we_var 1 rfl (by walk_at "vis") rfl ?_
  obtain ⟨x3, hx3, h⟩ := Out.gt h
  refine ⟨self1.held, name2, _, .inl rfl, rfl, hx3, ?_⟩
  refine ⟨_, rfl, ?_⟩
  exact h
theorem ok_validate_places {f : Addr} {fd : FuncData} (F : Fun K "validate_places" "validate_places" s_validate_places f fd) (B : Bn mg) (c_is_number : Cal P w K mg base "is_number" 3 ["value", "lowest", "highest"] (FM cx (A := Int × Int × Int) (R := Bool) (fun a => [eI a.1, eI a.2.1, eI a.2.2]) (fun v => .sh (eB v)) (fun a => .ok (m_is_number a.1 a.2.1 a.2.2)))) {t_MAX_END : Tok} (m_MAX_END : mg "MAX_END" = some (.int 200 t_MAX_END)) : FnOk P w K mg base (L2.CX P w) 5 f fd ["end", "places"] (spD K (FM cx (A := Int × (List Int)) (R := Unit) (fun a => [eI a.1, (eL eI) a.2]) (fun v => .sh (eU v)) (fun a => m_validate_places a.1 a.2))) := by
  refine def_ok F sc_validate_places (fun ds G post px h => ?_) (fun cdv A outer s H E F0 T hr ds G post px h tk hp => ?_)
  · obtain ⟨_, rfl, _⟩ := h; rfl
  obtain ⟨⟨end1, places2⟩, rfl, h⟩ := h
  unfold m_validate_places at h
  try dsimp only at h
  have nd := sc_validate_places.nd
  refine wb_env [.sh (eI end1), .sh ((eL eI) places2), .no] rfl ?_
  -- 84
  refine wb_cons (ws_if ?_)
  refine wt_not ?_
  refine wt_val (fun _ => rfl) ?_
  refine we_cal tk c_is_number hr rfl ?_
  refine wa_cons ?_
  refine we_var 0 rfl (by walk_at "vis") rfl ?_
  refine ⟨_, _, rfl, ?_⟩
  refine wa_cons ?_
  refine we_int ?_
  refine ⟨_, _, rfl, ?_⟩
  refine wa_cons ?_
  refine we_globI rfl m_MAX_END ?_
  refine ⟨_, _, rfl, ?_⟩
  refine wa_nil ?_
  refine ⟨(end1, (1 : Int), (200 : Int)), rfl, ?_⟩
  refine ⟨_, rfl, ?_⟩
  refine ⟨fun hc => ?_, fun hc => ?_⟩
  · skip
    have h := (Out.iteb h).1 hc
    -- 85
    exact h.elim
  have h := (Out.iteb h).2 hc
  refine wb_nil ?_
  -- 86
  refine wb_forO (β := Unit) [2] (σT := Unit) (fun s4 => [.sh (eI end1), .sh ((eL eI) places2), .no]) (fun s4 => G) eI hp rfl ?_
  refine ti_lst (f := eI) ?_
  refine we_var 1 rfl (by walk_at "vis") rfl ?_
  refine ⟨places2, _, rfl, fun hl7 => ?_⟩
  refine ⟨places2, (), _, _, _, _, rfl, (.eq (.eq (.no .nil))), rfl, h, fun s4 x6 Q' h => ?_, fun s5 h => ?_⟩
  · skip
    refine wg_name 2 nd rfl (by walk_at "vis") (by decide) (lt_ rfl) ?_
    refine wb_env [.sh (eI end1), .sh ((eL eI) places2), .sh (eI x6)] rfl ?_
    -- 87
    refine wb_cons (ws_if ?_)
    refine wt_not ?_
    refine wt_val (fun _ => rfl) ?_
    refine we_cal tk c_is_number hr rfl ?_
    refine wa_cons ?_
    refine we_var 2 rfl (by walk_at "vis") rfl ?_
    refine ⟨_, _, rfl, ?_⟩
    refine wa_cons ?_
    refine we_int ?_
    refine ⟨_, _, rfl, ?_⟩
    refine wa_cons ?_
    refine we_var 0 rfl (by walk_at "vis") rfl ?_
    refine ⟨_, _, rfl, ?_⟩
    refine wa_nil ?_
    refine ⟨(x6, (0 : Int), end1), rfl, ?_⟩
    refine ⟨_, rfl, ?_⟩
    refine ⟨fun hc => ?_, fun hc => ?_⟩
    · skip
      have h := (Out.iteb h).1 hc
      -- 88
      exact h.elim
    have h := (Out.iteb h).2 hc
    refine wb_nil ?_
    exact wb_nil ⟨(), (.eq (.eq (.no .nil))), rfl, h⟩
  exact wb_nil h
theorem ok_next_places {f : Addr} {fd : FuncData} (F : Fun K "next_places" "next_places" s_next_places f fd) (B : Bn mg) : FnOk P w K mg base (L2.CX P w) 3 f fd ["steps", "end", "place"] (spD K (FM cx (A := (List ((S × Int))) × Int × Int) (R := List (((S × Int) × Int))) (fun a => [(eL (eP eZ eI)) a.1, eI a.2.1, eI a.2.2]) (fun v => .fr ((eL (eP (eP eZ eI) eI)) v)) (fun a => .ok (m_next_places a.1 a.2.1 a.2.2)))) := by
  refine def_ok F sc_next_places (fun ds G post px h => ?_) (fun cdv A outer s H E F0 T hr ds G post px h tk hp => ?_)
  · obtain ⟨_, rfl, _⟩ := h; rfl
  obtain ⟨⟨steps1, end2, place3⟩, rfl, h⟩ := h
  unfold m_next_places at h
  try dsimp only at h
  have nd := sc_next_places.nd
  refine wb_env [.sh ((eL (eP eZ eI)) steps1), .sh (eI end2), .sh (eI place3), .no] rfl ?_
  -- 90
  refine wb_cons (ws_ret ?_)
  refine we_lcQ [("laying", 3)] rfl nd (blkOk_by (by rfl)) (lc1_pre [("laying", 3)] [.sh ((eL (eP eZ eI)) steps1), .sh (eI end2), .sh (eI place3), .no] (en := (eP eZ eI)) (eP (eP eZ eI) eI) (fun x4 => (decide ((0 : Int) ≤ (place3 + x4.2))) && (decide ((place3 + x4.2) ≤ end2))) (fun (x4 : (S × Int)) => (x4, place3 + x4.2)) ?_)
  refine ti_lst (f := (eP eZ eI)) ?_
  refine we_var 0 rfl (by walk_at "vis") rfl ?_
  refine ⟨steps1, _, rfl, fun hl5 => ?_⟩
  refine ⟨steps1, rfl, hl5, Wk.refl _, fun x4 => ?_, ?_⟩
  · skip
    rintro Y ⟨s1, H1, C1, cl, fp, rfl⟩
    refine wg_name 3 nd rfl (by walk_at "vis") (by decide) (lt_ rfl) ?_
    rintro Y ⟨s1, H1, C1, cl, fp, rfl⟩
    refine wt_chainI (fun i j R q => opw_le q) (fun i j R q => opw_le q) ?_
    refine we_int ?_
    refine we_bin ?_
    refine we_var 2 rfl (by walk_at "vis") rfl ?_
    refine we_ix (fun _ _ => rfl) ?_
    refine we_var 3 rfl (by walk_at "vis") rfl ?_
    refine we_int ?_
    refine ⟨_, _, .inl rfl, .inl rfl, ?_⟩
    refine ixw_tup (xs := [eZ x4.1, eI x4.2]) (i := (1 : Int)) rfl ?_
    refine ⟨_, _, .inl rfl, .inl rfl, ?_⟩
    refine opw_add ?_
    refine ⟨_, _, end2, rfl, rfl, fun _ => ?_, ?_⟩
    · skip
      refine we_var 1 rfl (by walk_at "vis") rfl ?_
      exact ⟨rfl, rfl, rfl⟩
    refine ⟨rfl, fun _ => ?_, fun _ => ?_⟩
    · skip
      rintro Y ⟨s1, H1, C1, cl, fp, rfl⟩
      refine we_tup ?_
      refine wa_cons ?_
      refine we_var 3 rfl (by walk_at "vis") rfl ?_
      refine ⟨_, _, rfl, ?_⟩
      refine wa_cons ?_
      refine we_bin ?_
      refine we_var 2 rfl (by walk_at "vis") rfl ?_
      refine we_ix (fun _ _ => rfl) ?_
      refine we_var 3 rfl (by walk_at "vis") rfl ?_
      refine we_int ?_
      refine ⟨_, _, .inl rfl, .inl rfl, ?_⟩
      refine ixw_tup (xs := [eZ x4.1, eI x4.2]) (i := (1 : Int)) rfl ?_
      refine ⟨_, _, .inl rfl, .inl rfl, ?_⟩
      refine opw_add ?_
      refine ⟨_, _, rfl, ?_⟩
      refine wa_nil ?_
      refine ⟨lt_ rfl, ?_⟩
      exact ⟨_, rfl, Wk.refl _, rfl⟩
    exact ⟨Wk.refl _, rfl⟩
  refine ⟨_, rfl, ?_⟩
  exact h
theorem ok_count_tables {f : Addr} {fd : FuncData} (F : Fun K "count_tables" "count_tables" s_count_tables f fd) (B : Bn mg) (c_next_places : Cal P w K mg base "next_places" 3 ["steps", "end", "place"] (FM cx (A := (List ((S × Int))) × Int × Int) (R := List (((S × Int) × Int))) (fun a => [(eL (eP eZ eI)) a.1, eI a.2.1, eI a.2.2]) (fun v => .fr ((eL (eP (eP eZ eI) eI)) v)) (fun a => .ok (m_next_places a.1 a.2.1 a.2.2)))) (cl_Rack : Cl_Rack K C_Rack) (p_Rack_steps : PropD P w K mg base C_Rack "steps" 8 (FM cx (A := Rak) (R := List ((S × Int))) (fun a => [(eRak C_Rack C_Ruler) a]) (fun v => .fr ((eL (eP eZ eI)) v)) (fun a => m_Rack_steps a))) : FnOk P w K mg base (L2.CX P w) 11 f fd ["rack", "end", "goal", "number"] (spD K (FM cx (A := Rak × Int × Int × Int) (R := List (List (Int × Int))) (fun a => [(eRak C_Rack C_Ruler) a.1, eI a.2.1, eI a.2.2.1, eI a.2.2.2]) (fun v => .fr ((eL (eD kI eI)) v)) (fun a => m_count_tables a.1 a.2.1 a.2.2.1 a.2.2.2))) := by
  refine def_ok F sc_count_tables (fun ds G post px h => ?_) (fun cdv A outer s H E F0 T hr ds G post px h tk hp => ?_)
  · obtain ⟨_, rfl, _⟩ := h; rfl
  obtain ⟨⟨rack1, end2, goal3, number4⟩, rfl, h⟩ := h
  unfold m_count_tables at h
  try dsimp only at h
  have nd := sc_count_tables.nd
  obtain ⟨q_Rack_0, sl_Rack_0⟩ := cl_Rack.s0
  refine wb_env [.sh ((eRak C_Rack C_Ruler) rack1), .sh (eI end2), .sh (eI goal3), .sh (eI number4), .no, .no, .no, .no, .no, .no, .no, .no] rfl ?_
  -- 94
  refine wb_cons (ws_parT 4 5 rfl nd rfl rfl (by walk_at "vis") (by walk_at "vis") ?_)
  refine we_prop cl_Rack.cls p_Rack_steps hr ?_
  refine we_var 0 rfl (by walk_at "vis") rfl ?_
  refine ⟨_, rfl, rack1, rfl, (Out.nx (Out.sb h)).imp (fun r5 h => ?_) (fun _ he => he)⟩
  refine ⟨_, _, rfl, ?_⟩
  refine we_lst ?_
  refine wa_cons ?_
  refine we_lock ?_
  refine we_dispT1 (k := kI) (f := eI) kI_inj ?_
  refine wpr_cons ?_
  refine we_var 2 rfl (by walk_at "vis") rfl ?_
  refine ⟨goal3, rfl, ?_⟩
  refine we_int ?_
  refine ⟨(1 : Int), _, rfl, ?_⟩
  refine wpr_nil ?_
  refine ⟨_, _, rfl, ?_⟩
  refine ⟨_, _, rfl, ?_⟩
  refine wa_nil ?_
  refine ⟨lt_ rfl, ?_⟩
  refine ⟨_, _, rfl, lt_ rfl, lt_ rfl, ?_⟩
  refine wb_let h (fun steps6 => [.sh ((eRak C_Rack C_Ruler) rack1), .sh (eI end2), .sh (eI goal3), .sh (eI number4), .own ((eL (eP eZ eI)) steps6), .own ((eL (eD kI eI)) [dmk [(goal3, (1 : Int))]]), .no, .no, .no, .no, .no, .no]) rfl fun steps6 h => ?_
  refine wb_let h (fun found7 => [.sh ((eRak C_Rack C_Ruler) rack1), .sh (eI end2), .sh (eI goal3), .sh (eI number4), .own ((eL (eP eZ eI)) steps6), .own ((eL (eD kI eI)) found7), .no, .no, .no, .no, .no, .no]) rfl fun found7 h => ?_
  -- 95
  refine wb_frz 4 rfl rfl ?_
  refine wb_env [.sh ((eRak C_Rack C_Ruler) rack1), .sh (eI end2), .sh (eI goal3), .sh (eI number4), .sh ((eL (eP eZ eI)) steps6), .own ((eL (eD kI eI)) found7), .no, .no, .no, .no, .no, .no] rfl ?_
  refine wb_forO (β := List (List (Int × Int))) [6] (σT := List (List (Int × Int))) (fun s8 => [.sh ((eRak C_Rack C_Ruler) rack1), .sh (eI end2), .sh (eI goal3), .sh (eI number4), .sh ((eL (eP eZ eI)) steps6), .own ((eL (eD kI eI)) s8), .no, .no, .no, .no, .no, .no]) (fun s8 => G) eI hp rfl ?_
  refine wi_rng1 rfl B.range ?_
  refine we_var 3 rfl (by walk_at "vis") rfl ?_
  obtain ⟨g11, h⟩ := Out.gd h
  refine ⟨number4, rfl, g11, ?_⟩
  refine ⟨(rgI 0 number4), found7, _, _, _, _, rfl, (.eq (.eq (.eq (.eq (.eq (.eq (.no (.no (.no (.no (.no (.no .nil)))))))))))), rfl, h, fun s8 x10 Q' h => ?_, fun s9 h => ?_⟩
  · skip
    refine wg_name 6 nd rfl (by walk_at "vis") (by decide) (lt_ rfl) ?_
    refine wb_env [.sh ((eRak C_Rack C_Ruler) rack1), .sh (eI end2), .sh (eI goal3), .sh (eI number4), .sh ((eL (eP eZ eI)) steps6), .own ((eL (eD kI eI)) s8), .sh (eI x10), .no, .no, .no, .no, .no] rfl ?_
    -- 96
    refine wb_cons (ws_set 7 nd rfl (by walk_at "vis") ?_)
    refine we_dnew ?_
    refine ⟨lt_ rfl, _, rfl, ?_⟩
    refine wb_let h (fun later12 => [.sh ((eRak C_Rack C_Ruler) rack1), .sh (eI end2), .sh (eI goal3), .sh (eI number4), .sh ((eL (eP eZ eI)) steps6), .own ((eL (eD kI eI)) s8), .sh (eI x10), .own ((eD kI eI) later12), .no, .no, .no, .no]) rfl fun later12 h => ?_
    -- 97
    refine wb_forO (β := (List (List (Int × Int)))) [8] (σT := List (Int × Int)) (fun s13 => [.sh ((eRak C_Rack C_Ruler) rack1), .sh (eI end2), .sh (eI goal3), .sh (eI number4), .sh ((eL (eP eZ eI)) steps6), .own ((eL (eD kI eI)) s8), .sh (eI x10), .own ((eD kI eI) s13), .no, .no, .no, .no]) (fun s13 => G) eI hp rfl ?_
    refine wi_rng1 rfl B.range ?_
    refine we_bin ?_
    refine we_var 1 rfl (by walk_at "vis") rfl ?_
    refine we_int ?_
    refine ⟨_, _, .inl rfl, .inl rfl, ?_⟩
    refine opw_add ?_
    obtain ⟨g16, h⟩ := Out.gd h
    refine ⟨(end2 + (1 : Int)), rfl, g16, ?_⟩
    refine ⟨(rgI 0 (end2 + (1 : Int))), later12, _, _, _, _, rfl, (.eq (.eq (.eq (.eq (.eq (.eq (.eq (.eq (.no (.no (.no (.no .nil)))))))))))), rfl, h, fun s13 x15 Q' h => ?_, fun s14 h => ?_⟩
    · skip
      refine wg_name 8 nd rfl (by walk_at "vis") (by decide) (lt_ rfl) ?_
      refine wb_env [.sh ((eRak C_Rack C_Ruler) rack1), .sh (eI end2), .sh (eI goal3), .sh (eI number4), .sh ((eL (eP eZ eI)) steps6), .own ((eL (eD kI eI)) s8), .sh (eI x10), .own ((eD kI eI) s13), .sh (eI x15), .no, .no, .no] rfl ?_
      -- 98
      refine wb_cons (ws_set 9 nd rfl (by walk_at "vis") ?_)
      refine we_b1 (x := "sum") (id := "sum") rfl B.sum bt_sum ?_
      refine we_lcQ [("laying", 10), ("other", 11)] rfl nd (blkOk_by (by rfl)) (lcS_preP (γ := (List (Int × Int))) [("laying", 10), ("other", 11)] [.sh ((eRak C_Rack C_Ruler) rack1), .sh (eI end2), .sh (eI goal3), .sh (eI number4), .sh ((eL (eP eZ eI)) steps6), .own ((eL (eD kI eI)) s8), .sh (eI x10), .own ((eD kI eI) s13), .sh (eI x15), .no, .no, .no] (fun _ : Unit => G) (en := (eP (eP eZ eI) eI)) eI ?_)
      refine ti_lst (f := (eP (eP eZ eI) eI)) ?_
      refine we_cal tk c_next_places hr rfl ?_
      refine wa_cons ?_
      refine we_var 4 rfl (by walk_at "vis") rfl ?_
      refine ⟨_, _, rfl, ?_⟩
      refine wa_cons ?_
      refine we_var 1 rfl (by walk_at "vis") rfl ?_
      refine ⟨_, _, rfl, ?_⟩
      refine wa_cons ?_
      refine we_var 8 rfl (by walk_at "vis") rfl ?_
      refine ⟨_, _, rfl, ?_⟩
      refine wa_nil ?_
      refine ⟨(steps6, end2, x15), rfl, ?_⟩
      refine ⟨(m_next_places steps6 end2 x15), _, rfl, fun hl19 => ?_⟩
      refine ⟨(m_next_places steps6 end2 x15), (), _, _, _, _, rfl, hl19, Wk.refl _, rfl, h, fun s20 x17 Q' h => ?_, fun l21 h => ?_⟩
      · skip
        rintro Y ⟨s1, H1, C1, cl, fp, rfl⟩
        refine wg_pair 10 11 rfl nd rfl rfl (by walk_at "vis") (by walk_at "vis") (by decide) (by decide) (lt_ rfl) (lt_ rfl) ?_
        rintro Y ⟨s1, H1, C1, cl, fp, rfl⟩
        refine we_dgetT (k := kI) (f := eI) kI_inj (by exact hr.units) ?_
        refine we_ix (fun _ _ => rfl) ?_
        refine we_var 5 rfl (by walk_at "vis") rfl ?_
        refine we_un rfl ?_
        refine we_int ?_
        refine ⟨_, rfl, ?_⟩
        obtain ⟨x22, hx22, h⟩ := Out.gt h
        refine ⟨_, _, .inl rfl, .inl rfl, ?_⟩
        refine t_ix (f := (eD kI eI)) hx22 ?_
        refine ⟨x22, .inl rfl, ?_⟩
        refine we_var 11 rfl (by walk_at "vis") rfl ?_
        refine ⟨x17.2, rfl, ?_⟩
        refine we_int ?_
        refine ⟨(0 : Int), _, x22, rfl, .inl rfl, ?_⟩
        exact ⟨((dget x22 x17.2).getD (0 : Int)), (), _, rfl, Wk.refl _, rfl, h⟩
      refine ⟨_, .inl rfl, ?_⟩
      refine c_sum (ns := l21.1) rfl ?_
      refine ⟨lt_ rfl, _, rfl, ?_⟩
      refine wb_let h (fun many23 => [.sh ((eRak C_Rack C_Ruler) rack1), .sh (eI end2), .sh (eI goal3), .sh (eI number4), .sh ((eL (eP eZ eI)) steps6), .own ((eL (eD kI eI)) s8), .sh (eI x10), .own ((eD kI eI) s13), .sh (eI x15), .sh (eI many23), .no, .no]) rfl fun many23 h => ?_
      -- 99
      refine wb_join (β := (List (Int × Int))) (σT := List (Int × Int)) (fun s24 => [.sh ((eRak C_Rack C_Ruler) rack1), .sh (eI end2), .sh (eI goal3), .sh (eI number4), .sh ((eL (eP eZ eI)) steps6), .own ((eL (eD kI eI)) s8), .sh (eI x10), .own ((eD kI eI) s24), .sh (eI x15), .sh (eI many23), .no, .no]) (fun s24 => G) h (fun Q' h => ?_) (fun s24 h => ?_)
      · skip
        refine ws_if ?_
        refine wt_cmp (nomark _) ?_
        refine we_var 9 rfl (by walk_at "vis") rfl ?_
        refine we_int ?_
        refine ⟨_, _, .inl rfl, .inl rfl, ?_⟩
        refine opw_gt ?_
        refine ⟨_, rfl, ?_⟩
        refine ⟨fun hc => ?_, fun hc => ?_⟩
        · skip
          have h := (Out.iteb h).1 hc
          -- 100
          refine wb_cons (ws_dput (k := kI) (f := eI) kI_inj (by exact hr.units) ?_)
          refine we_var 9 rfl (by walk_at "vis") rfl ?_
          refine ⟨many23, _, rfl, ?_⟩
          refine we_var 7 rfl (by walk_at "vis") rfl ?_
          refine ⟨_, rfl, ?_⟩
          refine we_var 8 rfl (by walk_at "vis") rfl ?_
          obtain ⟨g25, h⟩ := Out.gd h
          refine ⟨s13, x15, rfl, rfl, g25, ?_⟩
          refine wb_let h (fun later26 => [.sh ((eRak C_Rack C_Ruler) rack1), .sh (eI end2), .sh (eI goal3), .sh (eI number4), .sh ((eL (eP eZ eI)) steps6), .own ((eL (eD kI eI)) s8), .sh (eI x10), .own ((eD kI eI) later26), .sh (eI x15), .sh (eI many23), .no, .no]) rfl fun later26 h => ?_
          exact wb_nil ⟨later26, (.eq (.eq (.eq (.eq (.eq (.eq (.eq (.eq (.eq (.eq (.no (.no .nil)))))))))))), rfl, h⟩
        have h := (Out.iteb h).2 hc
        exact wb_nil ⟨s13, (.eq (.eq (.eq (.eq (.eq (.eq (.eq (.eq (.eq (.eq (.no (.no .nil)))))))))))), rfl, h⟩
      exact wb_nil ⟨s24, (.eq (.eq (.eq (.eq (.eq (.eq (.eq (.eq (.no (.no (.no (.no .nil)))))))))))), rfl, h⟩
    -- 101
    refine wb_cons (ws_expr ?_)
    refine we_appendT (f := (eD kI eI)) ?_
    refine we_var 5 rfl (by walk_at "vis") rfl ?_
    refine ⟨_, s8, rfl, rfl, ?_⟩
    refine we_lockV ?_
    refine we_var 7 rfl (by walk_at "vis") rfl ?_
    refine ⟨_, _, _, rfl, rfl, ?_⟩
    obtain ⟨g28, h⟩ := Out.gd h
    refine ⟨s14, _, s8, rfl, rfl, g28, ?_⟩
    refine wb_let h (fun found29 => [.sh ((eRak C_Rack C_Ruler) rack1), .sh (eI end2), .sh (eI goal3), .sh (eI number4), .sh ((eL (eP eZ eI)) steps6), .own ((eL (eD kI eI)) found29), .sh (eI x10), .sh ((eD kI eI) s14), .no, .no, .no, .no]) rfl fun found29 h => ?_
    exact wb_nil ⟨found29, (.eq (.eq (.eq (.eq (.eq (.eq (.no (.no (.no (.no (.no (.no .nil)))))))))))), rfl, h⟩
  -- 102
  refine wb_cons (ws_ret ?_)
  refine we_var 5 rfl (by walk_at "vis") rfl ?_
  refine ⟨_, rfl, ?_⟩
  exact h
theorem ok_validate_rows {f : Addr} {fd : FuncData} (F : Fun K "validate_rows" "validate_rows" s_validate_rows f fd) (B : Bn mg) (c_is_number : Cal P w K mg base "is_number" 3 ["value", "lowest", "highest"] (FM cx (A := Int × Int × Int) (R := Bool) (fun a => [eI a.1, eI a.2.1, eI a.2.2]) (fun v => .sh (eB v)) (fun a => .ok (m_is_number a.1 a.2.1 a.2.2)))) (c_validate_places : Cal P w K mg base "validate_places" 5 ["end", "places"] (FM cx (A := Int × (List Int)) (R := Unit) (fun a => [eI a.1, (eL eI) a.2]) (fun v => .sh (eU v)) (fun a => m_validate_places a.1 a.2))) {t_MAX_LAYINGS : Tok} (m_MAX_LAYINGS : mg "MAX_LAYINGS" = some (.int 60 t_MAX_LAYINGS)) : FnOk P w K mg base (L2.CX P w) 7 f fd ["end", "begin", "goal", "number"] (spD K (FM cx (A := Int × Int × Int × Int) (R := Unit) (fun a => [eI a.1, eI a.2.1, eI a.2.2.1, eI a.2.2.2]) (fun v => .sh (eU v)) (fun a => m_validate_rows a.1 a.2.1 a.2.2.1 a.2.2.2))) := by
  refine def_ok F sc_validate_rows (fun ds G post px h => ?_) (fun cdv A outer s H E F0 T hr ds G post px h tk hp => ?_)
  · obtain ⟨_, rfl, _⟩ := h; rfl
  obtain ⟨⟨end1, begin2, goal3, number4⟩, rfl, h⟩ := h
  unfold m_validate_rows at h
  try dsimp only at h
  have nd := sc_validate_rows.nd
  refine wb_env [.sh (eI end1), .sh (eI begin2), .sh (eI goal3), .sh (eI number4)] rfl ?_
  -- 104
  refine wb_cons (ws_expr ?_)
  refine we_cal tk c_validate_places hr rfl ?_
  refine wa_cons ?_
  refine we_var 0 rfl (by walk_at "vis") rfl ?_
  refine ⟨_, _, rfl, ?_⟩
  refine wa_cons ?_
  refine we_lst ?_
  refine wa_cons ?_
  refine we_var 1 rfl (by walk_at "vis") rfl ?_
  refine ⟨_, _, rfl, ?_⟩
  refine wa_cons ?_
  refine we_var 2 rfl (by walk_at "vis") rfl ?_
  refine ⟨_, _, rfl, ?_⟩
  refine wa_nil ?_
  refine ⟨lt_ rfl, ?_⟩
  refine ⟨_, _, rfl, ?_⟩
  refine wa_nil ?_
  refine ⟨(end1, [begin2, goal3]), rfl, (Out.sb h).imp (fun r5 h => ?_) (fun _ he => he)⟩
  -- 105
  refine wb_cons (ws_if ?_)
  refine wt_not ?_
  refine wt_val (fun _ => rfl) ?_
  refine we_cal tk c_is_number hr rfl ?_
  refine wa_cons ?_
  refine we_var 3 rfl (by walk_at "vis") rfl ?_
  refine ⟨_, _, rfl, ?_⟩
  refine wa_cons ?_
  refine we_int ?_
  refine ⟨_, _, rfl, ?_⟩
  refine wa_cons ?_
  refine we_globI rfl m_MAX_LAYINGS ?_
  refine ⟨_, _, rfl, ?_⟩
  refine wa_nil ?_
  refine ⟨(number4, (0 : Int), (60 : Int)), rfl, ?_⟩
  refine ⟨_, rfl, ?_⟩
  refine ⟨fun hc => ?_, fun hc => ?_⟩
  · skip
    have h := (Out.iteb h).1 hc
    -- 106
    exact h.elim
  have h := (Out.iteb h).2 hc
  refine wb_nil ?_
  exact wb_nil h
theorem ok_row_count {f : Addr} {fd : FuncData} (F : Fun K "row_count" "row_count" s_row_count f fd) (B : Bn mg) (c_count_tables : Cal P w K mg base "count_tables" 11 ["rack", "end", "goal", "number"] (FM cx (A := Rak × Int × Int × Int) (R := List (List (Int × Int))) (fun a => [(eRak C_Rack C_Ruler) a.1, eI a.2.1, eI a.2.2.1, eI a.2.2.2]) (fun v => .fr ((eL (eD kI eI)) v)) (fun a => m_count_tables a.1 a.2.1 a.2.2.1 a.2.2.2))) (c_validate_rows : Cal P w K mg base "validate_rows" 7 ["end", "begin", "goal", "number"] (FM cx (A := Int × Int × Int × Int) (R := Unit) (fun a => [eI a.1, eI a.2.1, eI a.2.2.1, eI a.2.2.2]) (fun v => .sh (eU v)) (fun a => m_validate_rows a.1 a.2.1 a.2.2.1 a.2.2.2))) : FnOk P w K mg base (L2.CX P w) 13 f fd ["rack", "end", "begin", "goal", "number"] (spD K (FM cx (A := Rak × Int × Int × Int × Int) (R := Int) (fun a => [(eRak C_Rack C_Ruler) a.1, eI a.2.1, eI a.2.2.1, eI a.2.2.2.1, eI a.2.2.2.2]) (fun v => .sh (eI v)) (fun a => m_row_count a.1 a.2.1 a.2.2.1 a.2.2.2.1 a.2.2.2.2))) := by
  refine def_ok F sc_row_count (fun ds G post px h => ?_) (fun cdv A outer s H E F0 T hr ds G post px h tk hp => ?_)
  · obtain ⟨_, rfl, _⟩ := h; rfl
  obtain ⟨⟨rack1, end2, begin3, goal4, number5⟩, rfl, h⟩ := h
  unfold m_row_count at h
  try dsimp only at h
  have nd := sc_row_count.nd
  refine wb_env [.sh ((eRak C_Rack C_Ruler) rack1), .sh (eI end2), .sh (eI begin3), .sh (eI goal4), .sh (eI number5)] rfl ?_
  -- 108
  refine wb_cons (ws_expr ?_)
  refine we_cal tk c_validate_rows hr rfl ?_
  refine wa_cons ?_
  refine we_var 1 rfl (by walk_at "vis") rfl ?_
  refine ⟨_, _, rfl, ?_⟩
  refine wa_cons ?_
  refine we_var 2 rfl (by walk_at "vis") rfl ?_
  refine ⟨_, _, rfl, ?_⟩
  refine wa_cons ?_
  refine we_var 3 rfl (by walk_at "vis") rfl ?_
  refine ⟨_, _, rfl, ?_⟩
  refine wa_cons ?_
  refine we_var 4 rfl (by walk_at "vis") rfl ?_
  refine ⟨_, _, rfl, ?_⟩
  refine wa_nil ?_
  refine ⟨(end2, begin3, goal4, number5), rfl, (Out.sb h).imp (fun r6 h => ?_) (fun _ he => he)⟩
  -- 109
  refine wb_cons (ws_ret ?_)
  refine we_dgetT (k := kI) (f := eI) kI_inj (by exact hr.units) ?_
  refine we_ix (fun _ _ => rfl) ?_
  refine we_cal tk c_count_tables hr rfl ?_
  refine wa_cons ?_
  refine we_var 0 rfl (by walk_at "vis") rfl ?_
  refine ⟨_, _, rfl, ?_⟩
  refine wa_cons ?_
  refine we_var 1 rfl (by walk_at "vis") rfl ?_
  refine ⟨_, _, rfl, ?_⟩
  refine wa_cons ?_
  refine we_var 3 rfl (by walk_at "vis") rfl ?_
  refine ⟨_, _, rfl, ?_⟩
  refine wa_cons ?_
  refine we_var 4 rfl (by walk_at "vis") rfl ?_
  refine ⟨_, _, rfl, ?_⟩
  refine wa_nil ?_
  refine ⟨(rack1, end2, goal4, number5), rfl, (Out.sb h).imp (fun r7 h => ?_) (fun _ he => he)⟩
  refine we_un rfl ?_
  refine we_int ?_
  refine ⟨_, rfl, ?_⟩
  obtain ⟨x8, hx8, h⟩ := Out.gt h
  refine ⟨_, _, .inl rfl, .inl rfl, ?_⟩
  refine t_ix (f := (eD kI eI)) hx8 ?_
  refine ⟨x8, .inl rfl, ?_⟩
  refine we_var 2 rfl (by walk_at "vis") rfl ?_
  refine ⟨begin3, rfl, ?_⟩
  refine we_int ?_
  refine ⟨(0 : Int), _, x8, rfl, .inl rfl, ?_⟩
  refine ⟨_, rfl, ?_⟩
  exact h
theorem ok_row_at {f : Addr} {fd : FuncData} (F : Fun K "row_at" "row_at" s_row_at f fd) (B : Bn mg) (c_count_tables : Cal P w K mg base "count_tables" 11 ["rack", "end", "goal", "number"] (FM cx (A := Rak × Int × Int × Int) (R := List (List (Int × Int))) (fun a => [(eRak C_Rack C_Ruler) a.1, eI a.2.1, eI a.2.2.1, eI a.2.2.2]) (fun v => .fr ((eL (eD kI eI)) v)) (fun a => m_count_tables a.1 a.2.1 a.2.2.1 a.2.2.2))) (c_is_number : Cal P w K mg base "is_number" 3 ["value", "lowest", "highest"] (FM cx (A := Int × Int × Int) (R := Bool) (fun a => [eI a.1, eI a.2.1, eI a.2.2]) (fun v => .sh (eB v)) (fun a => .ok (m_is_number a.1 a.2.1 a.2.2)))) (c_next_places : Cal P w K mg base "next_places" 3 ["steps", "end", "place"] (FM cx (A := (List ((S × Int))) × Int × Int) (R := List (((S × Int) × Int))) (fun a => [(eL (eP eZ eI)) a.1, eI a.2.1, eI a.2.2]) (fun v => .fr ((eL (eP (eP eZ eI) eI)) v)) (fun a => .ok (m_next_places a.1 a.2.1 a.2.2)))) (c_validate_rows : Cal P w K mg base "validate_rows" 7 ["end", "begin", "goal", "number"] (FM cx (A := Int × Int × Int × Int) (R := Unit) (fun a => [eI a.1, eI a.2.1, eI a.2.2.1, eI a.2.2.2]) (fun v => .sh (eU v)) (fun a => m_validate_rows a.1 a.2.1 a.2.2.1 a.2.2.2))) (cl_Rack : Cl_Rack K C_Rack) (p_Rack_steps : PropD P w K mg base C_Rack "steps" 8 (FM cx (A := Rak) (R := List ((S × Int))) (fun a => [(eRak C_Rack C_Ruler) a]) (fun v => .fr ((eL (eP eZ eI)) v)) (fun a => m_Rack_steps a))) : FnOk P w K mg base (L2.CX P w) 13 f fd ["rack", "end", "begin", "goal", "number", "index"] (spD K (FM cx (A := Rak × Int × Int × Int × Int × Int) (R := List ((S × Int))) (fun a => [(eRak C_Rack C_Ruler) a.1, eI a.2.1, eI a.2.2.1, eI a.2.2.2.1, eI a.2.2.2.2.1, eI a.2.2.2.2.2]) (fun v => .fr ((eL (eP eZ eI)) v)) (fun a => m_row_at a.1 a.2.1 a.2.2.1 a.2.2.2.1 a.2.2.2.2.1 a.2.2.2.2.2))) := by
  refine def_ok F sc_row_at (fun ds G post px h => ?_) (fun cdv A outer s H E F0 T hr ds G post px h tk hp => ?_)
  · obtain ⟨_, rfl, _⟩ := h; rfl
  obtain ⟨⟨rack1, end2, begin3, goal4, number5, index6⟩, rfl, h⟩ := h
  unfold m_row_at at h
  try dsimp only at h
  have nd := sc_row_at.nd
  obtain ⟨q_Rack_0, sl_Rack_0⟩ := cl_Rack.s0
  refine wb_env [.sh ((eRak C_Rack C_Ruler) rack1), .sh (eI end2), .sh (eI begin3), .sh (eI goal4), .sh (eI number5), .sh (eI index6), .no, .no, .no, .no, .no, .no, .no, .no, .no] rfl ?_
  -- 111
  refine wb_cons (ws_expr ?_)
  refine we_cal tk c_validate_rows hr rfl ?_
  refine wa_cons ?_
  refine we_var 1 rfl (by walk_at "vis") rfl ?_
  refine ⟨_, _, rfl, ?_⟩
  refine wa_cons ?_
  refine we_var 2 rfl (by walk_at "vis") rfl ?_
  refine ⟨_, _, rfl, ?_⟩
  refine wa_cons ?_
  refine we_var 3 rfl (by walk_at "vis") rfl ?_
  refine ⟨_, _, rfl, ?_⟩
  refine wa_cons ?_
  refine we_var 4 rfl (by walk_at "vis") rfl ?_
  refine ⟨_, _, rfl, ?_⟩
  refine wa_nil ?_
  refine ⟨(end2, begin3, goal4, number5), rfl, (Out.sb h).imp (fun r7 h => ?_) (fun _ he => he)⟩
  -- 112
  refine wb_cons (ws_set 6 nd rfl (by walk_at "vis") ?_)
  refine we_cal tk c_count_tables hr rfl ?_
  refine wa_cons ?_
  refine we_var 0 rfl (by walk_at "vis") rfl ?_
  refine ⟨_, _, rfl, ?_⟩
  refine wa_cons ?_
  refine we_var 1 rfl (by walk_at "vis") rfl ?_
  refine ⟨_, _, rfl, ?_⟩
  refine wa_cons ?_
  refine we_var 3 rfl (by walk_at "vis") rfl ?_
  refine ⟨_, _, rfl, ?_⟩
  refine wa_cons ?_
  refine we_var 4 rfl (by walk_at "vis") rfl ?_
  refine ⟨_, _, rfl, ?_⟩
  refine wa_nil ?_
  refine ⟨(rack1, end2, goal4, number5), rfl, (Out.sb h).imp (fun r8 h => ?_) (fun _ he => he)⟩
  refine ⟨lt_ rfl, _, rfl, ?_⟩
  refine wb_env [.sh ((eRak C_Rack C_Ruler) rack1), .sh (eI end2), .sh (eI begin3), .sh (eI goal4), .sh (eI number5), .sh (eI index6), .own ((eL (eD kI eI)) r8), .no, .no, .no, .no, .no, .no, .no, .no] rfl ?_
  -- 113
  refine wb_cons (ws_if ?_)
  refine wt_not ?_
  refine wt_val (fun _ => rfl) ?_
  refine we_cal tk c_is_number hr rfl ?_
  refine wa_cons ?_
  refine we_var 5 rfl (by walk_at "vis") rfl ?_
  refine ⟨_, _, rfl, ?_⟩
  refine wa_cons ?_
  refine we_int ?_
  refine ⟨_, _, rfl, ?_⟩
  refine wa_cons ?_
  refine we_bin ?_
  refine we_dgetT (k := kI) (f := eI) kI_inj (by exact hr.units) ?_
  refine we_ix (fun _ _ => rfl) ?_
  refine we_var 6 rfl (by walk_at "vis") rfl ?_
  refine we_un rfl ?_
  refine we_int ?_
  refine ⟨_, rfl, ?_⟩
  obtain ⟨x9, hx9, h⟩ := Out.gt h
  refine ⟨_, _, .inl rfl, .inl rfl, ?_⟩
  refine t_ix (f := (eD kI eI)) hx9 ?_
  refine ⟨x9, .inl rfl, ?_⟩
  refine we_var 2 rfl (by walk_at "vis") rfl ?_
  refine ⟨begin3, rfl, ?_⟩
  refine we_int ?_
  refine ⟨(0 : Int), _, x9, rfl, .inl rfl, ?_⟩
  refine we_int ?_
  refine ⟨_, _, .inl rfl, .inl rfl, ?_⟩
  refine opw_sub ?_
  refine ⟨_, _, rfl, ?_⟩
  refine wa_nil ?_
  refine ⟨(index6, (0 : Int), ((dget x9 begin3).getD (0 : Int)) - (1 : Int)), rfl, ?_⟩
  refine ⟨_, rfl, ?_⟩
  refine ⟨fun hc => ?_, fun hc => ?_⟩
  · skip
    have h := (Out.iteb h).1 hc
    -- 114
    exact h.elim
  have h := (Out.iteb h).2 hc
  refine wb_nil ?_
  -- 115
  refine wb_cons (ws_parN [7, 8, 9, 10] rfl (.cons (pg_name nd rfl (by walk_at "vis")) (.cons (pg_name nd rfl (by walk_at "vis")) (.cons (pg_name nd rfl (by walk_at "vis")) (.cons (pg_name nd rfl (by walk_at "vis")) .nil)))) (fun t ht us => by simp only [List.mem_cons, List.not_mem_nil, or_false] at ht; rcases ht with rfl | rfl | rfl | rfl <;> rfl) ?_)
  refine wn_cons ?_
  refine we_prop cl_Rack.cls p_Rack_steps hr ?_
  refine we_var 0 rfl (by walk_at "vis") rfl ?_
  refine ⟨_, rfl, rack1, rfl, (Out.nx (Out.sb h)).imp (fun r11 h => ?_) (fun _ he => he)⟩
  refine ⟨_, _, rfl, ?_⟩
  refine wn_cons ?_
  refine we_lst ?_
  refine wa_nil ?_
  refine ⟨by decide, ?_⟩
  refine ⟨_, _, rfl, ?_⟩
  refine wn_cons ?_
  refine we_var 2 rfl (by walk_at "vis") rfl ?_
  refine ⟨_, _, rfl, ?_⟩
  refine wn_cons ?_
  refine we_var 5 rfl (by walk_at "vis") rfl ?_
  refine ⟨_, _, rfl, ?_⟩
  refine wn_nil ?_
  refine ⟨rfl, by show 4 ≤ 100; decide, all_lt (n := 15) rfl rfl, ?_⟩
  refine wb_let h (fun steps12 => [.sh ((eRak C_Rack C_Ruler) rack1), .sh (eI end2), .sh (eI begin3), .sh (eI goal4), .sh (eI number5), .sh (eI index6), .own ((eL (eD kI eI)) r8), .own ((eL (eP eZ eI)) steps12), .own ((eL (eP eZ eI)) ([] : List ((S × Int)))), .sh (eI begin3), .sh (eI index6), .no, .no, .no, .no]) rfl fun steps12 h => ?_
  refine wb_let h (fun found13 => [.sh ((eRak C_Rack C_Ruler) rack1), .sh (eI end2), .sh (eI begin3), .sh (eI goal4), .sh (eI number5), .sh (eI index6), .own ((eL (eD kI eI)) r8), .own ((eL (eP eZ eI)) steps12), .own ((eL (eP eZ eI)) found13), .sh (eI begin3), .sh (eI index6), .no, .no, .no, .no]) rfl fun found13 h => ?_
  refine wb_let h (fun place14 => [.sh ((eRak C_Rack C_Ruler) rack1), .sh (eI end2), .sh (eI begin3), .sh (eI goal4), .sh (eI number5), .sh (eI index6), .own ((eL (eD kI eI)) r8), .own ((eL (eP eZ eI)) steps12), .own ((eL (eP eZ eI)) found13), .sh (eI place14), .sh (eI index6), .no, .no, .no, .no]) rfl fun place14 h => ?_
  refine wb_let h (fun left15 => [.sh ((eRak C_Rack C_Ruler) rack1), .sh (eI end2), .sh (eI begin3), .sh (eI goal4), .sh (eI number5), .sh (eI index6), .own ((eL (eD kI eI)) r8), .own ((eL (eP eZ eI)) steps12), .own ((eL (eP eZ eI)) found13), .sh (eI place14), .sh (eI left15), .no, .no, .no, .no]) rfl fun left15 h => ?_
  -- 116
  refine wb_frz 7 rfl rfl ?_
  refine wb_env [.sh ((eRak C_Rack C_Ruler) rack1), .sh (eI end2), .sh (eI begin3), .sh (eI goal4), .sh (eI number5), .sh (eI index6), .own ((eL (eD kI eI)) r8), .sh ((eL (eP eZ eI)) steps12), .own ((eL (eP eZ eI)) found13), .sh (eI place14), .sh (eI left15), .no, .no, .no, .no] rfl ?_
  refine wb_forO (β := List ((S × Int))) [11] (σT := Int × (List ((S × Int))) × Int) (fun s16 => [.sh ((eRak C_Rack C_Ruler) rack1), .sh (eI end2), .sh (eI begin3), .sh (eI goal4), .sh (eI number5), .sh (eI index6), .own ((eL (eD kI eI)) r8), .sh ((eL (eP eZ eI)) steps12), .own ((eL (eP eZ eI)) s16.2.1), .sh (eI s16.2.2), .sh (eI s16.1), .no, .no, .no, .no]) (fun s16 => G) eI hp rfl ?_
  refine wi_rng3 rfl B.range ?_
  refine we_bin ?_
  refine we_var 4 rfl (by walk_at "vis") rfl ?_
  refine we_int ?_
  refine ⟨_, _, .inl rfl, .inl rfl, ?_⟩
  refine opw_sub ?_
  refine we_un rfl ?_
  refine we_int ?_
  refine ⟨_, rfl, ?_⟩
  refine we_un rfl ?_
  refine we_int ?_
  refine ⟨_, rfl, ?_⟩
  obtain ⟨g19, h⟩ := Out.gd h
  refine ⟨(number5 - (1 : Int)), (-(1 : Int)), (-(1 : Int)), rfl, rfl, rfl, g19, ?_⟩
  refine ⟨(rgS (number5 - (1 : Int)) (-(1 : Int)) (-(1 : Int))), (left15, found13, place14), _, _, _, _, rfl, (.eq (.eq (.eq (.eq (.eq (.eq (.eq (.eq (.eq (.eq (.eq (.no (.no (.no (.no .nil))))))))))))))), rfl, h, fun s16 x18 Q' h => ?_, fun s17 h => ?_⟩
  · skip
    refine wg_name 11 nd rfl (by walk_at "vis") (by decide) (lt_ rfl) ?_
    refine wb_env [.sh ((eRak C_Rack C_Ruler) rack1), .sh (eI end2), .sh (eI begin3), .sh (eI goal4), .sh (eI number5), .sh (eI index6), .own ((eL (eD kI eI)) r8), .sh ((eL (eP eZ eI)) steps12), .own ((eL (eP eZ eI)) s16.2.1), .sh (eI s16.2.2), .sh (eI s16.1), .sh (eI x18), .no, .no, .no] rfl ?_
    -- 117
    refine wb_setLcQ [("laying", 13), ("other", 14)] 12 rfl nd rfl rfl (by rfl) (blkOk_by (by rfl)) (lcS_preP (γ := (Int × (List ((S × Int))) × Int)) [("laying", 13), ("other", 14)] [.sh ((eRak C_Rack C_Ruler) rack1), .sh (eI end2), .sh (eI begin3), .sh (eI goal4), .sh (eI number5), .sh (eI index6), .own ((eL (eD kI eI)) r8), .sh ((eL (eP eZ eI)) steps12), .own ((eL (eP eZ eI)) s16.2.1), .sh (eI s16.2.2), .sh (eI s16.1), .sh (eI x18), .no, .no, .no] (fun _ : Unit => G) (en := (eP (eP eZ eI) eI)) (eP3 (eP eZ eI) eI eI) ?_)
    refine ti_lst (f := (eP (eP eZ eI) eI)) ?_
    refine we_cal tk c_next_places hr rfl ?_
    refine wa_cons ?_
    refine we_var 7 rfl (by walk_at "vis") rfl ?_
    refine ⟨_, _, rfl, ?_⟩
    refine wa_cons ?_
    refine we_var 1 rfl (by walk_at "vis") rfl ?_
    refine ⟨_, _, rfl, ?_⟩
    refine wa_cons ?_
    refine we_var 9 rfl (by walk_at "vis") rfl ?_
    refine ⟨_, _, rfl, ?_⟩
    refine wa_nil ?_
    refine ⟨(steps12, end2, s16.2.2), rfl, ?_⟩
    refine ⟨(m_next_places steps12 end2 s16.2.2), _, rfl, fun hl22 => ?_⟩
    refine ⟨(m_next_places steps12 end2 s16.2.2), (), _, _, _, _, rfl, hl22, Wk.refl _, rfl, h, fun s23 x20 Q' h => ?_, fun l24 h => ?_⟩
    · skip
      rintro Y ⟨s1, H1, C1, cl, fp, rfl⟩
      refine wg_pair 13 14 rfl nd rfl rfl (by walk_at "vis") (by walk_at "vis") (by decide) (by decide) (lt_ rfl) (lt_ rfl) ?_
      rintro Y ⟨s1, H1, C1, cl, fp, rfl⟩
      refine we_tup ?_
      refine wa_cons ?_
      refine we_var 13 rfl (by walk_at "vis") rfl ?_
      refine ⟨_, _, rfl, ?_⟩
      refine wa_cons ?_
      refine we_var 14 rfl (by walk_at "vis") rfl ?_
      refine ⟨_, _, rfl, ?_⟩
      refine wa_cons ?_
      refine we_dgetT (k := kI) (f := eI) kI_inj (by exact hr.units) ?_
      refine we_ix (fun _ _ => rfl) ?_
      refine we_var 6 rfl (by walk_at "vis") rfl ?_
      refine we_var 11 rfl (by walk_at "vis") rfl ?_
      obtain ⟨x25, hx25, h⟩ := Out.gt h
      refine ⟨_, _, .inl rfl, .inl rfl, ?_⟩
      refine t_ix (f := (eD kI eI)) hx25 ?_
      refine ⟨x25, .inl rfl, ?_⟩
      refine we_var 14 rfl (by walk_at "vis") rfl ?_
      refine ⟨x20.2, rfl, ?_⟩
      refine we_int ?_
      refine ⟨(0 : Int), _, x25, rfl, .inl rfl, ?_⟩
      refine ⟨_, _, rfl, ?_⟩
      refine wa_nil ?_
      refine ⟨lt_ rfl, ?_⟩
      exact ⟨(x20.1, x20.2, (dget x25 x20.2).getD (0 : Int)), (), _, rfl, Wk.refl _, rfl, h⟩
    refine ⟨lt_ rfl, _, rfl, ?_⟩
    refine wb_env [.sh ((eRak C_Rack C_Ruler) rack1), .sh (eI end2), .sh (eI begin3), .sh (eI goal4), .sh (eI number5), .sh (eI index6), .own ((eL (eD kI eI)) r8), .sh ((eL (eP eZ eI)) steps12), .own ((eL (eP eZ eI)) s16.2.1), .sh (eI s16.2.2), .sh (eI s16.1), .sh (eI x18), .own ((eL (eP3 (eP eZ eI) eI eI)) l24.1), .no, .no] rfl ?_
    -- 118
    refine wb_whlO (β := (Int × (List ((S × Int))) × Int)) 1000000 (σT := Int × (List (((S × Int) × Int × Int)))) (fun s26 => [.sh ((eRak C_Rack C_Ruler) rack1), .sh (eI end2), .sh (eI begin3), .sh (eI goal4), .sh (eI number5), .sh (eI index6), .own ((eL (eD kI eI)) r8), .sh ((eL (eP eZ eI)) steps12), .own ((eL (eP eZ eI)) s16.2.1), .sh (eI s16.2.2), .sh (eI s26.1), .sh (eI x18), .own ((eL (eP3 (eP eZ eI) eI eI)) s26.2), .no, .no]) (fun s26 => G) (s16.1, l24.1) hp (.eq (.eq (.eq (.eq (.eq (.eq (.eq (.eq (.eq (.eq (.eq (.eq (.eq (.no (.no .nil))))))))))))))) rfl h (fun s26 Q' h => ?_) (fun s26 Q' h => ?_) (fun s27 h => ?_)
    · skip
      refine wt_cmp (nomark _) ?_
      refine we_var 10 rfl (by walk_at "vis") rfl ?_
      refine we_ix (fun _ _ => rfl) ?_
      refine we_ix (fun _ _ => rfl) ?_
      refine we_var 12 rfl (by walk_at "vis") rfl ?_
      refine we_int ?_
      obtain ⟨x29, hx29, h⟩ := Out.gt h
      refine ⟨_, _, .inl rfl, .inl rfl, ?_⟩
      refine t_ix (f := (eP3 (eP eZ eI) eI eI)) hx29 ?_
      refine we_int ?_
      refine ⟨_, _, .inl rfl, .inl rfl, ?_⟩
      refine ixw_tup (xs := [(eP eZ eI) x29.1, eI x29.2.1, eI x29.2.2]) (i := (2 : Int)) rfl ?_
      refine ⟨_, _, .inl rfl, .inl rfl, ?_⟩
      refine opw_ge ?_
      refine ⟨_, rfl, ?_⟩
      exact ⟨(.eq (.eq (.eq (.eq (.eq (.eq (.eq (.eq (.eq (.eq (.eq (.eq (.eq (.no (.no .nil))))))))))))))), rfl, h⟩
    · skip
      -- 119
      refine wb_cons (ws_augS 10 nd rfl (by walk_at "vis") rfl ?_)
      refine we_ix (fun _ _ => rfl) ?_
      refine we_ix (fun _ _ => rfl) ?_
      refine we_var 12 rfl (by walk_at "vis") rfl ?_
      refine we_int ?_
      obtain ⟨x30, hx30, h⟩ := Out.gt h
      refine ⟨_, _, .inl rfl, .inl rfl, ?_⟩
      refine t_ix (f := (eP3 (eP eZ eI) eI eI)) hx30 ?_
      refine we_int ?_
      refine ⟨_, _, .inl rfl, .inl rfl, ?_⟩
      refine ixw_tup (xs := [(eP eZ eI) x30.1, eI x30.2.1, eI x30.2.2]) (i := (2 : Int)) rfl ?_
      refine ⟨lt_ rfl, _, rfl, ?_⟩
      refine wb_let h (fun left31 => [.sh ((eRak C_Rack C_Ruler) rack1), .sh (eI end2), .sh (eI begin3), .sh (eI goal4), .sh (eI number5), .sh (eI index6), .own ((eL (eD kI eI)) r8), .sh ((eL (eP eZ eI)) steps12), .own ((eL (eP eZ eI)) s16.2.1), .sh (eI s16.2.2), .sh (eI left31), .sh (eI x18), .own ((eL (eP3 (eP eZ eI) eI eI)) s26.2), .no, .no]) rfl fun left31 h => ?_
      -- 120
      refine wb_cons (ws_expr ?_)
      refine we_popT (f := (eP3 (eP eZ eI) eI eI)) ?_
      refine we_var 12 rfl (by walk_at "vis") rfl ?_
      refine ⟨_, s26.2, rfl, rfl, ?_⟩
      refine we_int ?_
      obtain ⟨g33, h⟩ := Out.gd h
      obtain ⟨x34, hx34, h⟩ := Out.gt h
      obtain ⟨g35, h⟩ := Out.gd h
      refine ⟨(0 : Int), s26.2, x34, rfl, rfl, g33, hx34, g35, ?_⟩
      refine wb_let h (fun rows36 => [.sh ((eRak C_Rack C_Ruler) rack1), .sh (eI end2), .sh (eI begin3), .sh (eI goal4), .sh (eI number5), .sh (eI index6), .own ((eL (eD kI eI)) r8), .sh ((eL (eP eZ eI)) steps12), .own ((eL (eP eZ eI)) s16.2.1), .sh (eI s16.2.2), .sh (eI left31), .sh (eI x18), .own ((eL (eP3 (eP eZ eI) eI eI)) rows36), .no, .no]) rfl fun rows36 h => ?_
      exact wb_nil ⟨(left31, rows36), (.eq (.eq (.eq (.eq (.eq (.eq (.eq (.eq (.eq (.eq (.eq (.eq (.eq (.no (.no .nil))))))))))))))), rfl, h⟩
    -- 121
    refine wb_cons (ws_expr ?_)
    refine we_appendT (f := (eP eZ eI)) ?_
    refine we_var 8 rfl (by walk_at "vis") rfl ?_
    refine ⟨_, s16.2.1, rfl, rfl, ?_⟩
    refine we_ix (fun _ _ => rfl) ?_
    refine we_ix (fun _ _ => rfl) ?_
    refine we_var 12 rfl (by walk_at "vis") rfl ?_
    refine we_int ?_
    obtain ⟨x38, hx38, h⟩ := Out.gt h
    refine ⟨_, _, .inl rfl, .inl rfl, ?_⟩
    refine t_ix (f := (eP3 (eP eZ eI) eI eI)) hx38 ?_
    refine we_int ?_
    refine ⟨_, _, .inl rfl, .inl rfl, ?_⟩
    refine ixw_tup (xs := [(eP eZ eI) x38.1, eI x38.2.1, eI x38.2.2]) (i := (0 : Int)) rfl ?_
    obtain ⟨g39, h⟩ := Out.gd h
    refine ⟨x38.1, _, s16.2.1, rfl, rfl, g39, ?_⟩
    refine wb_let h (fun found40 => [.sh ((eRak C_Rack C_Ruler) rack1), .sh (eI end2), .sh (eI begin3), .sh (eI goal4), .sh (eI number5), .sh (eI index6), .own ((eL (eD kI eI)) r8), .sh ((eL (eP eZ eI)) steps12), .own ((eL (eP eZ eI)) found40), .sh (eI s16.2.2), .sh (eI s27.1), .sh (eI x18), .own ((eL (eP3 (eP eZ eI) eI eI)) s27.2), .no, .no]) rfl fun found40 h => ?_
    -- 122
    refine wb_cons (ws_set 9 nd rfl (by walk_at "vis") ?_)
    refine we_ix (fun _ _ => rfl) ?_
    refine we_ix (fun _ _ => rfl) ?_
    refine we_var 12 rfl (by walk_at "vis") rfl ?_
    refine we_int ?_
    obtain ⟨x41, hx41, h⟩ := Out.gt h
    refine ⟨_, _, .inl rfl, .inl rfl, ?_⟩
    refine t_ix (f := (eP3 (eP eZ eI) eI eI)) hx41 ?_
    refine we_int ?_
    refine ⟨_, _, .inl rfl, .inl rfl, ?_⟩
    refine ixw_tup (xs := [(eP eZ eI) x41.1, eI x41.2.1, eI x41.2.2]) (i := (1 : Int)) rfl ?_
    refine ⟨lt_ rfl, _, rfl, ?_⟩
    refine wb_env [.sh ((eRak C_Rack C_Ruler) rack1), .sh (eI end2), .sh (eI begin3), .sh (eI goal4), .sh (eI number5), .sh (eI index6), .own ((eL (eD kI eI)) r8), .sh ((eL (eP eZ eI)) steps12), .own ((eL (eP eZ eI)) found40), .sh (eI x41.2.1), .sh (eI s27.1), .sh (eI x18), .own ((eL (eP3 (eP eZ eI) eI eI)) s27.2), .no, .no] rfl ?_
    exact wb_nil ⟨(s27.1, found40, x41.2.1), (.eq (.eq (.eq (.eq (.eq (.eq (.eq (.eq (.eq (.eq (.eq (.no (.no (.no (.no .nil))))))))))))))), rfl, h⟩
  -- 123
  refine wb_cons (ws_ret ?_)
  refine we_var 8 rfl (by walk_at "vis") rfl ?_
  refine ⟨_, rfl, ?_⟩
  exact h
theorem ok_law_marks {f : Addr} {fd : FuncData} (F : Fun K "_law_marks" "_law_marks" s_law_marks f fd) (B : Bn mg) (c_law_take : Cal P w K mg base "_law_take" 3 ["_law_box", "_law_many"] (FB (A := Int) (R := Int) (fun a => [eI a]) (fun v => .sh (eI v)) (fun a => m_law_take a))) : FnOk P w K mg base (L2.CX P w) 5 f fd ["_law_box", "_law_most", "_law_length"] (spD K (FB (A := Int × Int) (R := List Int) (fun a => [eI a.1, eI a.2]) (fun v => .sh ((eT eI) v)) (fun a => m_law_marks a.1 a.2))) := by
  refine def_ok F sc_law_marks (fun ds G post px h => ?_) (fun cdv A outer s H E F0 T hr ds G post px h tk hp => ?_)
  · obtain ⟨_, _, _, _, _, _, rfl, _⟩ := h; rfl
  obtain ⟨⟨most1, length2⟩, G0, b, g, bx, hne, rfl, rfl, h⟩ := h
  unfold m_law_marks at h
  try dsimp only at h
  have nd := sc_law_marks.nd
  refine wb_env [.sh (.adr b), .sh (eI most1), .sh (eI length2), .no, .no, .no] rfl ?_
  -- 215
  refine wb_cons (ws_par 3 4 rfl nd rfl rfl (by decide) rfl rfl (by rfl) ?_)
  refine we_listR2 rfl rfl B.list rfl B.range ?_
  refine we_int ?_
  refine we_bin ?_
  refine we_var 2 rfl (by walk_at "vis") rfl ?_
  refine we_int ?_
  refine ⟨_, _, .inl rfl, .inl rfl, ?_⟩
  refine opw_add ?_
  obtain ⟨g3, h⟩ := Out.gd h
  refine ⟨_, _, rfl, rfl, g3, ?_⟩
  refine ⟨_, _, rfl, ?_⟩
  refine we_lst ?_
  refine wa_cons ?_
  refine we_int ?_
  refine ⟨_, _, rfl, ?_⟩
  refine wa_nil ?_
  refine ⟨lt_ rfl, ?_⟩
  refine ⟨_, _, rfl, lt_ rfl, lt_ rfl, ?_⟩
  refine wb_let h (fun left4 => [.sh (.adr b), .sh (eI most1), .sh (eI length2), .own ((eL eI) left4), .own ((eL eI) [(0 : Int)]), .no]) rfl fun left4 h => ?_
  refine wb_let h (fun found5 => [.sh (.adr b), .sh (eI most1), .sh (eI length2), .own ((eL eI) left4), .own ((eL eI) found5), .no]) rfl fun found5 h => ?_
  -- 216
  refine wb_forO (β := (List Int × Bx)) [5] (σT := (List Int) × (List Int) × Bx) (fun s6 => [.sh (.adr b), .sh (eI most1), .sh (eI length2), .own ((eL eI) s6.2.1), .own ((eL eI) s6.1), .no]) (fun s6 => bxG G0 b g s6.2.2) eI hp rfl ?_
  refine wi_rng1 rfl B.range ?_
  refine we_bin ?_
  refine we_int ?_
  refine we_cal tk c_law_take hr rfl ?_
  refine wa_cons ?_
  refine we_var 0 rfl (by walk_at "vis") rfl ?_
  refine ⟨_, _, rfl, ?_⟩
  refine wa_cons ?_
  refine we_bin ?_
  refine we_var 1 rfl (by walk_at "vis") rfl ?_
  refine we_int ?_
  refine ⟨_, _, .inl rfl, .inl rfl, ?_⟩
  refine opw_sub ?_
  refine ⟨_, _, rfl, ?_⟩
  refine wa_nil ?_
  refine ⟨most1 - (1 : Int), G0, b, g, bx, hne, rfl, rfl, (Out.sb h).imp (fun r9 h => ?_) (fun _ he => he.elim)⟩
  refine ⟨_, _, .inl rfl, .inl rfl, ?_⟩
  refine opw_add ?_
  obtain ⟨g10, h⟩ := Out.gd h
  refine ⟨((1 : Int) + r9.1), rfl, g10, ?_⟩
  refine ⟨(rgI 0 ((1 : Int) + r9.1)), (found5, left4, r9.2), _, _, _, _, rfl, (.eq (.eq (.eq (.eq (.eq (.no .nil)))))), rfl, h, fun s6 x8 Q' h => ?_, fun s7 h => ?_⟩
  · skip
    refine wg_name 5 nd rfl (by walk_at "vis") (by decide) (lt_ rfl) ?_
    refine wb_env [.sh (.adr b), .sh (eI most1), .sh (eI length2), .own ((eL eI) s6.2.1), .own ((eL eI) s6.1), .sh (eI x8)] rfl ?_
    -- 217
    refine wb_join (β := ((List Int) × (List Int) × Bx)) (σT := (List Int) × (List Int) × Bx) (fun s11 => [.sh (.adr b), .sh (eI most1), .sh (eI length2), .own ((eL eI) s11.2.1), .own ((eL eI) s11.1), .sh (eI x8)]) (fun s11 => bxG G0 b g s11.2.2) h (fun Q' h => ?_) (fun s11 h => ?_)
    · skip
      refine ws_if ?_
      refine wt_cmp (nomark _) ?_
      refine we_var 3 rfl (by walk_at "vis") rfl ?_
      refine we_lst ?_
      refine wa_nil ?_
      refine ⟨by decide, ?_⟩
      refine ⟨_, _, .inl rfl, .inl rfl, ?_⟩
      refine opw_neC (eqc_lst eqc_int) (by exact hr.units) s6.2.1 ([] : List Int) ?_
      refine ⟨_, rfl, ?_⟩
      refine ⟨fun hc => ?_, fun hc => ?_⟩
      · skip
        have h := (Out.iteb h).1 hc
        -- 218
        refine wb_cons (ws_expr ?_)
        refine we_appendT (f := eI) ?_
        refine we_var 4 rfl (by walk_at "vis") rfl ?_
        refine ⟨_, s6.1, rfl, rfl, ?_⟩
        refine we_popT (f := eI) ?_
        refine we_var 3 rfl (by walk_at "vis") rfl ?_
        refine ⟨_, s6.2.1, rfl, rfl, ?_⟩
        refine we_cal tk c_law_take hr rfl ?_
        refine wa_cons ?_
        refine we_var 0 rfl (by walk_at "vis") rfl ?_
        refine ⟨_, _, rfl, ?_⟩
        refine wa_cons ?_
        refine we_b1 (x := "len") (id := "len") rfl B.len bt_len ?_
        refine we_var 3 rfl (by walk_at "vis") rfl ?_
        refine ⟨_, .inl rfl, ?_⟩
        refine t_len (f := eI) s6.2.1 ?_
        refine ⟨_, _, rfl, ?_⟩
        refine wa_nil ?_
        refine ⟨((s6.2.1).length : Int), G0, b, g, s6.2.2, hne, rfl, rfl, (Out.sb h).imp (fun r14 h => ?_) (fun _ he => he.elim)⟩
        obtain ⟨g15, h⟩ := Out.gd h
        obtain ⟨x16, hx16, h⟩ := Out.gt h
        obtain ⟨g17, h⟩ := Out.gd h
        refine ⟨r14.1, s6.2.1, x16, rfl, rfl, g15, hx16, g17, ?_⟩
        obtain ⟨g18, h⟩ := Out.gd h
        refine ⟨x16, _, s6.1, rfl, rfl, g18, ?_⟩
        refine wb_let h (fun found19 => [.sh (.adr b), .sh (eI most1), .sh (eI length2), .own ((eL eI) (s6.2.1.eraseIdx (r14.1).toNat)), .own ((eL eI) found19), .sh (eI x8)]) rfl fun found19 h => ?_
        refine wb_let h (fun left20 => [.sh (.adr b), .sh (eI most1), .sh (eI length2), .own ((eL eI) left20), .own ((eL eI) found19), .sh (eI x8)]) rfl fun left20 h => ?_
        exact wb_nil ⟨(found19, left20, r14.2), (.eq (.eq (.eq (.eq (.eq (.eq .nil)))))), rfl, h⟩
      have h := (Out.iteb h).2 hc
      exact wb_nil ⟨(s6.1, s6.2.1, s6.2.2), (.eq (.eq (.eq (.eq (.eq (.eq .nil)))))), rfl, h⟩
    exact wb_nil ⟨(s11.1, s11.2.1, s11.2.2), (.eq (.eq (.eq (.eq (.eq (.no .nil)))))), rfl, h⟩
  -- 219
  refine wb_cons (ws_ret ?_)
  refine we_t1 (x := "tuple") (id := "tuple") rfl B.tuple bt_tuple ?_
  refine we_b1 (x := "sorted") (id := "sorted") rfl B.sorted bt_sorted ?_
  refine we_var 4 rfl (by walk_at "vis") rfl ?_
  refine ⟨_, .inl rfl, ?_⟩
  refine c_sorted (ns := s7.1) ?_
  refine ⟨_, .inl rfl, ?_⟩
  refine c_tuple ?_
  refine ⟨_, rfl, ?_⟩
  exact h
theorem ok_law_ruler {f : Addr} {fd : FuncData} (F : Fun K "_law_ruler" "_law_ruler" s_law_ruler f fd) (B : Bn mg) (c_law_marks : Cal P w K mg base "_law_marks" 5 ["_law_box", "_law_most", "_law_length"] (FB (A := Int × Int) (R := List Int) (fun a => [eI a.1, eI a.2]) (fun v => .sh ((eT eI) v)) (fun a => m_law_marks a.1 a.2))) (c_law_take : Cal P w K mg base "_law_take" 3 ["_law_box", "_law_many"] (FB (A := Int) (R := Int) (fun a => [eI a]) (fun v => .sh (eI v)) (fun a => m_law_take a))) (k_Ruler : MakeD P w K mg base "Ruler" C_Ruler 5 ["self", "marks", "error"] (FMI cx (A := (List Int) × Int) (R := Rul) (fun a => [(eT eI) a.1, eI a.2]) (fun r => [.int r.error, .tup (r.marks.map D.int)]) (fun a => mk_Ruler a.1 a.2))) : FnOk P w K mg base (L2.CX P w) 8 f fd ["_law_box", "_law_most", "_law_length"] (spD K (FB (A := Int × Int) (R := Rul) (fun a => [eI a.1, eI a.2]) (fun v => .sh ((eRul C_Ruler) v)) (fun a => m_law_ruler a.1 a.2))) := by
  refine def_ok F sc_law_ruler (fun ds G post px h => ?_) (fun cdv A outer s H E F0 T hr ds G post px h tk hp => ?_)
  · obtain ⟨_, _, _, _, _, _, rfl, _⟩ := h; rfl
  obtain ⟨⟨most1, length2⟩, G0, b, g, bx, hne, rfl, rfl, h⟩ := h
  unfold m_law_ruler at h
  try dsimp only at h
  have nd := sc_law_ruler.nd
  refine wb_env [.sh (.adr b), .sh (eI most1), .sh (eI length2)] rfl ?_
  -- 221
  refine wb_cons (ws_ret ?_)
  refine we_make tk k_Ruler hr rfl ?_
  refine wa_cons ?_
  refine we_cal tk c_law_marks hr rfl ?_
  refine wa_cons ?_
  refine we_var 0 rfl (by walk_at "vis") rfl ?_
  refine ⟨_, _, rfl, ?_⟩
  refine wa_cons ?_
  refine we_var 1 rfl (by walk_at "vis") rfl ?_
  refine ⟨_, _, rfl, ?_⟩
  refine wa_cons ?_
  refine we_var 2 rfl (by walk_at "vis") rfl ?_
  refine ⟨_, _, rfl, ?_⟩
  refine wa_nil ?_
  refine ⟨(most1, length2), G0, b, g, bx, hne, rfl, rfl, (Out.sb h).imp (fun r3 h => ?_) (fun _ he => he.elim)⟩
  refine ⟨_, _, rfl, ?_⟩
  refine wa_cons ?_
  refine we_cal tk c_law_take hr rfl ?_
  refine wa_cons ?_
  refine we_var 0 rfl (by walk_at "vis") rfl ?_
  refine ⟨_, _, rfl, ?_⟩
  refine wa_cons ?_
  refine we_int ?_
  refine ⟨_, _, rfl, ?_⟩
  refine wa_nil ?_
  refine ⟨(4 : Int), G0, b, g, r3.2, hne, rfl, rfl, (Out.sb h).imp (fun r4 h => ?_) (fun _ he => he.elim)⟩
  refine ⟨_, _, rfl, ?_⟩
  refine wa_nil ?_
  refine ⟨(r3.1, r4.1), rfl, (Out.sb h).imp (fun r5 h => ?_) (fun _ he => he.elim)⟩
  refine ⟨_, rfl, ?_⟩
  exact h
theorem ok_law_rack {f : Addr} {fd : FuncData} (F : Fun K "_law_rack" "_law_rack" s_law_rack f fd) (B : Bn mg) (c_law_ruler : Cal P w K mg base "_law_ruler" 8 ["_law_box", "_law_most", "_law_length"] (FB (A := Int × Int) (R := Rul) (fun a => [eI a.1, eI a.2]) (fun v => .sh ((eRul C_Ruler) v)) (fun a => m_law_ruler a.1 a.2))) (c_law_take : Cal P w K mg base "_law_take" 3 ["_law_box", "_law_many"] (FB (A := Int) (R := Int) (fun a => [eI a]) (fun v => .sh (eI v)) (fun a => m_law_take a))) (k_Rack : MakeD P w K mg base "Rack" C_Rack 5 ["self", "rulers"] (FMI cx (A := List (S × Rul)) (R := Rak) (fun a => [(eD kZ (eRul C_Ruler)) a]) (fun r => [eD kZ (eRul C_Ruler) r.held]) (fun a => mk_Rack a))) : FnOk P w K mg base (L2.CX P w) 10 f fd ["_law_box", "_law_many", "_law_most", "_law_length"] (spD K (FB (A := Int × Int × Int) (R := Rak) (fun a => [eI a.1, eI a.2.1, eI a.2.2]) (fun v => .sh ((eRak C_Rack C_Ruler) v)) (fun a => m_law_rack a.1 a.2.1 a.2.2))) := by
  refine def_ok F sc_law_rack (fun ds G post px h => ?_) (fun cdv A outer s H E F0 T hr ds G post px h tk hp => ?_)
  · obtain ⟨_, _, _, _, _, _, rfl, _⟩ := h; rfl
  obtain ⟨⟨many1, most2, length3⟩, G0, b, g, bx, hne, rfl, rfl, h⟩ := h
  unfold m_law_rack at h
  try dsimp only at h
  have nd := sc_law_rack.nd
  refine wb_env [.sh (.adr b), .sh (eI many1), .sh (eI most2), .sh (eI length3), .no, .no, .no] rfl ?_
  -- 223
  refine wb_cons (ws_set 4 nd rfl (by walk_at "vis") ?_)
  refine we_dnew ?_
  refine ⟨lt_ rfl, _, rfl, ?_⟩
  refine wb_let h (fun found4 => [.sh (.adr b), .sh (eI many1), .sh (eI most2), .sh (eI length3), .own ((eD kZ (eRul C_Ruler)) found4), .no, .no]) rfl fun found4 h => ?_
  -- 224
  refine wb_forO (β := (Rak × Bx)) [5] (σT := (List (S × Rul)) × Bx) (fun s5 => [.sh (.adr b), .sh (eI many1), .sh (eI most2), .sh (eI length3), .own ((eD kZ (eRul C_Ruler)) s5.1), .no, .no]) (fun s5 => bxG G0 b g s5.2) eI hp rfl ?_
  refine wi_rng1 rfl B.range ?_
  refine we_bin ?_
  refine we_int ?_
  refine we_cal tk c_law_take hr rfl ?_
  refine wa_cons ?_
  refine we_var 0 rfl (by walk_at "vis") rfl ?_
  refine ⟨_, _, rfl, ?_⟩
  refine wa_cons ?_
  refine we_var 1 rfl (by walk_at "vis") rfl ?_
  refine ⟨_, _, rfl, ?_⟩
  refine wa_nil ?_
  refine ⟨many1, G0, b, g, bx, hne, rfl, rfl, (Out.sb h).imp (fun r8 h => ?_) (fun _ he => he.elim)⟩
  refine ⟨_, _, .inl rfl, .inl rfl, ?_⟩
  refine opw_add ?_
  obtain ⟨g9, h⟩ := Out.gd h
  refine ⟨((1 : Int) + r8.1), rfl, g9, ?_⟩
  refine ⟨(rgI 0 ((1 : Int) + r8.1)), (found4, r8.2), _, _, _, _, rfl, (.eq (.eq (.eq (.eq (.eq (.no (.no .nil))))))), rfl, h, fun s5 x7 Q' h => ?_, fun s6 h => ?_⟩
  · skip
    refine wg_name 5 nd rfl (by walk_at "vis") (by decide) (lt_ rfl) ?_
    refine wb_env [.sh (.adr b), .sh (eI many1), .sh (eI most2), .sh (eI length3), .own ((eD kZ (eRul C_Ruler)) s5.1), .sh (eI x7), .no] rfl ?_
    -- 225
    refine wb_cons (ws_set 6 nd rfl (by walk_at "vis") ?_)
    refine we_ix (fun _ _ => rfl) ?_
    refine we_lst ?_
    refine wa_cons ?_
    refine we_str ?_
    refine ⟨_, _, rfl, ?_⟩
    refine wa_cons ?_
    refine we_str ?_
    refine ⟨_, _, rfl, ?_⟩
    refine wa_cons ?_
    refine we_str ?_
    refine ⟨_, _, rfl, ?_⟩
    refine wa_cons ?_
    refine we_str ?_
    refine ⟨_, _, rfl, ?_⟩
    refine wa_cons ?_
    refine we_str ?_
    refine ⟨_, _, rfl, ?_⟩
    refine wa_cons ?_
    refine we_str ?_
    refine ⟨_, _, rfl, ?_⟩
    refine wa_cons ?_
    refine we_str ?_
    refine ⟨_, _, rfl, ?_⟩
    refine wa_nil ?_
    refine ⟨lt_ rfl, ?_⟩
    refine we_cal tk c_law_take hr rfl ?_
    refine wa_cons ?_
    refine we_var 0 rfl (by walk_at "vis") rfl ?_
    refine ⟨_, _, rfl, ?_⟩
    refine wa_cons ?_
    refine we_int ?_
    refine ⟨_, _, rfl, ?_⟩
    refine wa_nil ?_
    refine ⟨(7 : Int), G0, b, g, s5.2, hne, rfl, rfl, (Out.sb h).imp (fun r10 h => ?_) (fun _ he => he.elim)⟩
    obtain ⟨x11, hx11, h⟩ := Out.gt h
    refine ⟨_, _, .inl rfl, .inl rfl, ?_⟩
    refine t_ix (f := eZ) hx11 ?_
    refine ⟨lt_ rfl, _, rfl, ?_⟩
    refine wb_env [.sh (.adr b), .sh (eI many1), .sh (eI most2), .sh (eI length3), .own ((eD kZ (eRul C_Ruler)) s5.1), .sh (eI x7), .sh (eZ x11)] rfl ?_
    -- 226
    refine wb_join (β := ((List (S × Rul)) × Bx)) (σT := (List (S × Rul)) × Bx) (fun s12 => [.sh (.adr b), .sh (eI many1), .sh (eI most2), .sh (eI length3), .own ((eD kZ (eRul C_Ruler)) s12.1), .sh (eI x7), .sh (eZ x11)]) (fun s12 => bxG G0 b g s12.2) h (fun Q' h => ?_) (fun s12 h => ?_)
    · skip
      refine ws_if ?_
      refine wt_w ?_
      refine ww_orB ?_
      refine wt_cmp rfl ?_
      refine we_var 6 rfl (by walk_at "vis") rfl ?_
      refine we_var 4 rfl (by walk_at "vis") rfl ?_
      refine ⟨_, _, .inl rfl, .inl rfl, ?_⟩
      refine opw_din (k := kZ) (f := (eRul C_Ruler)) (kvs := s5.1) (x := x11) kZ_inj (by exact hr.units) ?_
      refine ⟨_, rfl, ?_⟩
      refine ⟨(decide (((s5.1).length : Int) < many1)), fun _ => ?_, ?_⟩
      · skip
        refine ww_or1 ?_
        refine wt_cmp (nomark _) ?_
        refine we_b1 (x := "len") (id := "len") rfl B.len bt_len ?_
        refine we_var 4 rfl (by walk_at "vis") rfl ?_
        refine ⟨_, .inl rfl, ?_⟩
        refine t_lenD (k := kZ) (f := (eRul C_Ruler)) s5.1 ?_
        refine we_var 1 rfl (by walk_at "vis") rfl ?_
        refine ⟨_, _, .inl rfl, .inl rfl, ?_⟩
        refine opw_lt ?_
        refine ⟨_, rfl, ?_⟩
        exact ⟨rfl, rfl, rfl⟩
      refine ⟨fun hc => ?_, fun hc => ?_⟩
      · skip
        have h := (Out.iteb h).1 hc
        -- 227
        refine wb_cons (ws_dput (k := kZ) (f := (eRul C_Ruler)) kZ_inj (by exact hr.units) ?_)
        refine we_cal tk c_law_ruler hr rfl ?_
        refine wa_cons ?_
        refine we_var 0 rfl (by walk_at "vis") rfl ?_
        refine ⟨_, _, rfl, ?_⟩
        refine wa_cons ?_
        refine we_var 2 rfl (by walk_at "vis") rfl ?_
        refine ⟨_, _, rfl, ?_⟩
        refine wa_cons ?_
        refine we_var 3 rfl (by walk_at "vis") rfl ?_
        refine ⟨_, _, rfl, ?_⟩
        refine wa_nil ?_
        refine ⟨(most2, length3), G0, b, g, r10.2, hne, rfl, rfl, (Out.sb h).imp (fun r13 h => ?_) (fun _ he => he.elim)⟩
        refine ⟨r13.1, _, rfl, ?_⟩
        refine we_var 4 rfl (by walk_at "vis") rfl ?_
        refine ⟨_, rfl, ?_⟩
        refine we_var 6 rfl (by walk_at "vis") rfl ?_
        obtain ⟨g14, h⟩ := Out.gd h
        refine ⟨s5.1, x11, rfl, rfl, g14, ?_⟩
        refine wb_let h (fun found15 => [.sh (.adr b), .sh (eI many1), .sh (eI most2), .sh (eI length3), .own ((eD kZ (eRul C_Ruler)) found15), .sh (eI x7), .sh (eZ x11)]) rfl fun found15 h => ?_
        exact wb_nil ⟨(found15, r13.2), (.eq (.eq (.eq (.eq (.eq (.eq (.eq .nil))))))), rfl, h⟩
      have h := (Out.iteb h).2 hc
      exact wb_nil ⟨(s5.1, r10.2), (.eq (.eq (.eq (.eq (.eq (.eq (.eq .nil))))))), rfl, h⟩
    exact wb_nil ⟨(s12.1, s12.2), (.eq (.eq (.eq (.eq (.eq (.no (.no .nil))))))), rfl, h⟩
  -- 228
  refine wb_cons (ws_ret ?_)
  refine we_make tk k_Rack hr rfl ?_
  refine wa_cons ?_
  refine we_lockV ?_
  refine we_var 4 rfl (by walk_at "vis") rfl ?_
  refine ⟨_, _, _, rfl, rfl, ?_⟩
  refine ⟨_, _, rfl, ?_⟩
  refine wa_nil ?_
  refine ⟨s6.1, rfl, (Out.sb h).imp (fun r16 h => ?_) (fun _ he => he.elim)⟩
  refine ⟨_, rfl, ?_⟩
  exact h
theorem ok_law_spans {f : Addr} {fd : FuncData} (F : Fun K "_law_spans" "_law_spans" s_law_spans f fd) (B : Bn mg) : FnOk P w K mg base (L2.CX P w) 3 f fd ["_law_marks_here"] (spD K (FM cx (A := List Int) (R := List Int) (fun a => [(eT eI) a]) (fun v => .fr ((eL eI) v)) (fun a => m_law_spans a))) := by
  refine def_ok F sc_law_spans (fun ds G post px h => ?_) (fun cdv A outer s H E F0 T hr ds G post px h tk hp => ?_)
  · obtain ⟨_, rfl, _⟩ := h; rfl
  obtain ⟨marks_here1, rfl, h⟩ := h
  unfold m_law_spans at h
  try dsimp only at h
  have nd := sc_law_spans.nd
  refine wb_env [.sh ((eT eI) marks_here1), .no, .no, .no] rfl ?_
  -- 230
  refine wb_cons (ws_set 1 nd rfl (by walk_at "vis") ?_)
  refine we_lst ?_
  refine wa_nil ?_
  refine ⟨by decide, ?_⟩
  refine ⟨lt_ rfl, _, rfl, ?_⟩
  refine wb_let h (fun found2 => [.sh ((eT eI) marks_here1), .own ((eL eI) found2), .no, .no]) rfl fun found2 h => ?_
  -- 231
  refine wb_forO (β := List Int) [2] (σT := List Int) (fun s3 => [.sh ((eT eI) marks_here1), .own ((eL eI) s3), .no, .no]) (fun s3 => G) eI hp rfl ?_
  refine wi_rng1 rfl B.range ?_
  refine we_b1 (x := "len") (id := "len") rfl B.len bt_len ?_
  refine we_var 0 rfl (by walk_at "vis") rfl ?_
  refine ⟨_, .inl rfl, ?_⟩
  refine t_lenT (f := eI) marks_here1 ?_
  obtain ⟨g6, h⟩ := Out.gd h
  refine ⟨((marks_here1).length : Int), rfl, g6, ?_⟩
  refine ⟨(rgI 0 ((marks_here1).length : Int)), found2, _, _, _, _, rfl, (.eq (.eq (.no (.no .nil)))), rfl, h, fun s3 x5 Q' h => ?_, fun s4 h => ?_⟩
  · skip
    refine wg_name 2 nd rfl (by walk_at "vis") (by decide) (lt_ rfl) ?_
    refine wb_env [.sh ((eT eI) marks_here1), .own ((eL eI) s3), .sh (eI x5), .no] rfl ?_
    -- 232
    refine wb_cons (ws_expr ?_)
    refine we_extendT (f := eI) ?_
    refine we_var 1 rfl (by walk_at "vis") rfl ?_
    refine ⟨_, s3, rfl, rfl, ?_⟩
    refine we_lcQ [("_law_mark", 3)] rfl nd (blkOk_by (by rfl)) (lcS_preP (γ := (List Int)) [("_law_mark", 3)] [.sh ((eT eI) marks_here1), .own ((eL eI) s3), .sh (eI x5), .no] (fun _ : Unit => G) (en := eI) eI ?_)
    refine ti_tup (f := eI) ?_
    refine we_slice ?_
    refine we_var 0 rfl (by walk_at "vis") rfl ?_
    refine wo_some ?_
    refine we_bin ?_
    refine we_var 2 rfl (by walk_at "vis") rfl ?_
    refine we_int ?_
    refine ⟨_, _, .inl rfl, .inl rfl, ?_⟩
    refine opw_add ?_
    refine ⟨_, rfl, ?_⟩
    refine wo_none ?_
    refine ⟨_, .inl rfl, ?_⟩
    refine t_slT (f := eI) (xs := marks_here1) ?_
    refine ⟨(pcut marks_here1 (some (x5 + (1 : Int))) none), _, rfl, fun hl9 => ?_⟩
    refine ⟨(pcut marks_here1 (some (x5 + (1 : Int))) none), (), _, _, _, _, rfl, hl9, Wk.refl _, rfl, h, fun s10 x8 Q' h => ?_, fun l11 h => ?_⟩
    · skip
      rintro Y ⟨s1, H1, C1, cl, fp, rfl⟩
      refine wg_name 3 nd rfl (by walk_at "vis") (by decide) (lt_ rfl) ?_
      rintro Y ⟨s1, H1, C1, cl, fp, rfl⟩
      refine we_bin ?_
      refine we_var 3 rfl (by walk_at "vis") rfl ?_
      refine we_ix (fun _ _ => rfl) ?_
      refine we_var 0 rfl (by walk_at "vis") rfl ?_
      refine we_var 2 rfl (by walk_at "vis") rfl ?_
      obtain ⟨x12, hx12, h⟩ := Out.gt h
      refine ⟨_, _, .inl rfl, .inl rfl, ?_⟩
      refine t_ixT (f := eI) hx12 ?_
      refine ⟨_, _, .inl rfl, .inl rfl, ?_⟩
      refine opw_sub ?_
      exact ⟨(x8 - x12), (), _, rfl, Wk.refl _, rfl, h⟩
    obtain ⟨g13, h⟩ := Out.gd h
    refine ⟨l11.1, _, s3, rfl, rfl, g13, ?_⟩
    refine wb_let h (fun found14 => [.sh ((eT eI) marks_here1), .own ((eL eI) found14), .sh (eI x5), .no]) rfl fun found14 h => ?_
    exact wb_nil ⟨found14, (.eq (.eq (.no (.no .nil)))), rfl, h⟩
  -- 233
  refine wb_cons (ws_ret ?_)
  refine we_b1 (x := "sorted") (id := "sorted") rfl B.sorted bt_sorted ?_
  refine we_var 1 rfl (by walk_at "vis") rfl ?_
  refine ⟨_, .inl rfl, ?_⟩
  refine c_sorted (ns := s4) ?_
  refine ⟨_, rfl, ?_⟩
  exact h
theorem ok_law_different {f : Addr} {fd : FuncData} (F : Fun K "_law_different" "_law_different" s_law_different f fd) (B : Bn mg) : FnOk P w K mg base (L2.CX P w) 3 f fd ["_law_values"] (spD K (FM cx (A := List Int) (R := List Int) (fun a => [(eL eI) a]) (fun v => .fr ((eL eI) v)) (fun a => .ok (m_law_different a)))) := by
  refine def_ok F sc_law_different (fun ds G post px h => ?_) (fun cdv A outer s H E F0 T hr ds G post px h tk hp => ?_)
  · obtain ⟨_, rfl, _⟩ := h; rfl
  obtain ⟨values1, rfl, h⟩ := h
  unfold m_law_different at h
  try dsimp only at h
  have nd := sc_law_different.nd
  refine wb_env [.sh ((eL eI) values1), .no] rfl ?_
  -- 235
  refine wb_cons (ws_ret ?_)
  refine we_b1 (x := "sorted") (id := "sorted") rfl B.sorted bt_sorted ?_
  refine we_lock ?_
  refine we_t1 (x := "dict") (id := "dict") rfl B.dict bt_dict ?_
  refine we_lcQ [("_law_value", 1)] rfl nd (blkOk_by (by rfl)) (lc0_pre [("_law_value", 1)] [.sh ((eL eI) values1), .no] (en := eI) (eP eI eB) (fun (x2 : Int) => (x2, true)) ?_)
  refine ti_lst (f := eI) ?_
  refine we_var 0 rfl (by walk_at "vis") rfl ?_
  refine ⟨values1, _, rfl, fun hl3 => ?_⟩
  refine ⟨values1, rfl, hl3, Wk.refl _, fun x2 => ?_, ?_⟩
  · skip
    rintro Y ⟨s1, H1, C1, cl, fp, rfl⟩
    refine wg_name 1 nd rfl (by walk_at "vis") (by decide) (lt_ rfl) ?_
    rintro Y ⟨s1, H1, C1, cl, fp, rfl⟩
    refine we_tup ?_
    refine wa_cons ?_
    refine we_var 1 rfl (by walk_at "vis") rfl ?_
    refine ⟨_, _, rfl, ?_⟩
    refine wa_cons ?_
    refine we_bl ?_
    refine ⟨_, _, rfl, ?_⟩
    refine wa_nil ?_
    refine ⟨lt_ rfl, ?_⟩
    exact ⟨_, rfl, Wk.refl _, rfl⟩
  refine ⟨_, .inl rfl, ?_⟩
  refine t_dictP (k := kI) (f := eB) kI_inj rfl (values1.map (fun (x2 : Int) => (x2, true))) ?_
  refine ⟨_, _, rfl, ?_⟩
  refine ⟨_, .inl rfl, ?_⟩
  refine t_sortedD (f := eB) (dmk (values1.map (fun (x2 : Int) => (x2, true)))) rfl ?_
  refine ⟨_, rfl, ?_⟩
  exact h
theorem ok_law_steps {f : Addr} {fd : FuncData} (F : Fun K "_law_steps" "_law_steps" s_law_steps f fd) (B : Bn mg) (c_law_different : Cal P w K mg base "_law_different" 3 ["_law_values"] (FM cx (A := List Int) (R := List Int) (fun a => [(eL eI) a]) (fun v => .fr ((eL eI) v)) (fun a => .ok (m_law_different a)))) (c_law_spans : Cal P w K mg base "_law_spans" 3 ["_law_marks_here"] (FM cx (A := List Int) (R := List Int) (fun a => [(eT eI) a]) (fun v => .fr ((eL eI) v)) (fun a => m_law_spans a))) (cl_Rack : Cl_Rack K C_Rack) (cl_Ruler : Cl_Ruler K C_Ruler) (p_Rack_names : PropD P w K mg base C_Rack "names" 3 (FM cx (A := Rak) (R := List S) (fun a => [(eRak C_Rack C_Ruler) a]) (fun v => .sh ((eT eZ) v)) (fun a => .ok (m_Rack_names a)))) (p_Ruler_marks : PropD P w K mg base C_Ruler "marks" 3 (FM cx (A := Rul) (R := List Int) (fun a => [(eRul C_Ruler) a]) (fun v => .sh ((eT eI) v)) (fun a => .ok (m_Ruler_marks a)))) (x_Rack_getitem : ItemD P w K mg base C_Rack 3 ["self", "name"] (FM cx (A := Rak × S) (R := Rul) (fun a => [(eRak C_Rack C_Ruler) a.1, eZ a.2]) (fun v => .sh ((eRul C_Ruler) v)) (fun a => m_Rack___getitem a.1 a.2))) : FnOk P w K mg base (L2.CX P w) 6 f fd ["_law_rack_here"] (spD K (FM cx (A := Rak) (R := List ((S × Int))) (fun a => [(eRak C_Rack C_Ruler) a]) (fun v => .fr ((eL (eP eZ eI)) v)) (fun a => m_law_steps a))) := by
  refine def_ok F sc_law_steps (fun ds G post px h => ?_) (fun cdv A outer s H E F0 T hr ds G post px h tk hp => ?_)
  · obtain ⟨_, rfl, _⟩ := h; rfl
  obtain ⟨rack_here1, rfl, h⟩ := h
  unfold m_law_steps at h
  try dsimp only at h
  have nd := sc_law_steps.nd
  obtain ⟨q_Rack_0, sl_Rack_0⟩ := cl_Rack.s0
  obtain ⟨q_Ruler_0, sl_Ruler_0⟩ := cl_Ruler.s0
  obtain ⟨q_Ruler_1, sl_Ruler_1⟩ := cl_Ruler.s1
  refine wb_env [.sh ((eRak C_Rack C_Ruler) rack_here1), .no, .no, .no] rfl ?_
  -- 237
  refine wb_cons (ws_set 1 nd rfl (by walk_at "vis") ?_)
  refine we_lst ?_
  refine wa_nil ?_
  refine ⟨by decide, ?_⟩
  refine ⟨lt_ rfl, _, rfl, ?_⟩
  refine wb_let h (fun found2 => [.sh ((eRak C_Rack C_Ruler) rack_here1), .own ((eL (eP eZ eI)) found2), .no, .no]) rfl fun found2 h => ?_
  -- 238
  refine wb_forO (β := List ((S × Int))) [2] (σT := List ((S × Int))) (fun s3 => [.sh ((eRak C_Rack C_Ruler) rack_here1), .own ((eL (eP eZ eI)) s3), .no, .no]) (fun s3 => G) eZ hp rfl ?_
  refine ti_tup (f := eZ) ?_
  refine we_prop cl_Rack.cls p_Rack_names hr ?_
  refine we_var 0 rfl (by walk_at "vis") rfl ?_
  refine ⟨_, rfl, rack_here1, rfl, ?_⟩
  refine ⟨(m_Rack_names rack_here1), _, rfl, fun hl7 => ?_⟩
  refine ⟨(m_Rack_names rack_here1), found2, _, _, _, _, rfl, (.eq (.eq (.no (.no .nil)))), rfl, h, fun s3 x5 Q' h => ?_, fun s4 h => ?_⟩
  · skip
    refine wg_name 2 nd rfl (by walk_at "vis") (by decide) (lt_ rfl) ?_
    refine wb_env [.sh ((eRak C_Rack C_Ruler) rack_here1), .own ((eL (eP eZ eI)) s3), .sh (eZ x5), .no] rfl ?_
    -- 239
    refine wb_forO (β := (List ((S × Int)))) [3] (σT := List ((S × Int))) (fun s8 => [.sh ((eRak C_Rack C_Ruler) rack_here1), .own ((eL (eP eZ eI)) s8), .sh (eZ x5), .no]) (fun s8 => G) eI hp rfl ?_
    refine ti_lst (f := eI) ?_
    refine we_cal tk c_law_different hr rfl ?_
    refine wa_cons ?_
    refine we_cal tk c_law_spans hr rfl ?_
    refine wa_cons ?_
    refine we_prop cl_Ruler.cls p_Ruler_marks hr ?_
    refine we_item x_Rack_getitem hr ?_
    refine we_var 0 rfl (by walk_at "vis") rfl ?_
    refine we_var 2 rfl (by walk_at "vis") rfl ?_
    refine ⟨_, _, _, rfl, rfl, ⟨(rack_here1, x5), rfl, (Out.nx (Out.sb h)).imp (fun r11 h => ?_) (fun _ he => he)⟩⟩
    refine ⟨_, rfl, r11, rfl, ?_⟩
    refine ⟨_, _, rfl, ?_⟩
    refine wa_nil ?_
    refine ⟨m_Ruler_marks r11, rfl, (Out.sb h).imp (fun r13 h => ?_) (fun _ he => he)⟩
    refine ⟨_, _, rfl, ?_⟩
    refine wa_nil ?_
    refine ⟨r13, rfl, ?_⟩
    refine ⟨(m_law_different r13), _, rfl, fun hl15 => ?_⟩
    refine ⟨(m_law_different r13), s3, _, _, _, _, rfl, (.eq (.eq (.eq (.no .nil)))), rfl, h, fun s8 x10 Q' h => ?_, fun s9 h => ?_⟩
    · skip
      refine wg_name 3 nd rfl (by walk_at "vis") (by decide) (lt_ rfl) ?_
      refine wb_env [.sh ((eRak C_Rack C_Ruler) rack_here1), .own ((eL (eP eZ eI)) s8), .sh (eZ x5), .sh (eI x10)] rfl ?_
      -- 240
      refine wb_cons (ws_set 1 nd rfl (by walk_at "vis") ?_)
      refine we_bin ?_
      refine we_var 1 rfl (by walk_at "vis") rfl ?_
      refine we_lst ?_
      refine wa_cons ?_
      refine we_tup ?_
      refine wa_cons ?_
      refine we_var 2 rfl (by walk_at "vis") rfl ?_
      refine ⟨_, _, rfl, ?_⟩
      refine wa_cons ?_
      refine we_var 3 rfl (by walk_at "vis") rfl ?_
      refine ⟨_, _, rfl, ?_⟩
      refine wa_nil ?_
      refine ⟨lt_ rfl, ?_⟩
      refine ⟨_, _, rfl, ?_⟩
      refine wa_cons ?_
      refine we_tup ?_
      refine wa_cons ?_
      refine we_var 2 rfl (by walk_at "vis") rfl ?_
      refine ⟨_, _, rfl, ?_⟩
      refine wa_cons ?_
      refine we_bin ?_
      refine we_int ?_
      refine we_var 3 rfl (by walk_at "vis") rfl ?_
      refine ⟨_, _, .inl rfl, .inl rfl, ?_⟩
      refine opw_sub ?_
      refine ⟨_, _, rfl, ?_⟩
      refine wa_nil ?_
      refine ⟨lt_ rfl, ?_⟩
      refine ⟨_, _, rfl, ?_⟩
      refine wa_nil ?_
      refine ⟨lt_ rfl, ?_⟩
      obtain ⟨g16, h⟩ := Out.gd h
      refine ⟨_, _, .inl rfl, .inl rfl, ?_⟩
      refine t_cat (f := (eP eZ eI)) s8 [(x5, x10), (x5, (0 : Int) - x10)] g16 ?_
      refine ⟨lt_ rfl, _, rfl, ?_⟩
      refine wb_let h (fun found17 => [.sh ((eRak C_Rack C_Ruler) rack_here1), .own ((eL (eP eZ eI)) found17), .sh (eZ x5), .sh (eI x10)]) rfl fun found17 h => ?_
      exact wb_nil ⟨found17, (.eq (.eq (.eq (.no .nil)))), rfl, h⟩
    exact wb_nil ⟨s9, (.eq (.eq (.no (.no .nil)))), rfl, h⟩
  -- 241
  refine wb_cons (ws_ret ?_)
  refine we_b1 (x := "sorted") (id := "sorted") rfl B.sorted bt_sorted ?_
  refine we_var 1 rfl (by walk_at "vis") rfl ?_
  refine ⟨_, .inl rfl, ?_⟩
  refine t_sortedP s4 ?_
  refine ⟨_, rfl, ?_⟩
  exact h
theorem ok_law_next {f : Addr} {fd : FuncData} (F : Fun K "_law_next" "_law_next" s_law_next f fd) (B : Bn mg) : FnOk P w K mg base (L2.CX P w) 3 f fd ["_law_steps_here", "_law_end", "_law_place"] (spD K (FM cx (A := (List ((S × Int))) × Int × Int) (R := List (((S × Int) × Int))) (fun a => [(eL (eP eZ eI)) a.1, eI a.2.1, eI a.2.2]) (fun v => .fr ((eL (eP (eP eZ eI) eI)) v)) (fun a => .ok (m_law_next a.1 a.2.1 a.2.2)))) := by
  refine def_ok F sc_law_next (fun ds G post px h => ?_) (fun cdv A outer s H E F0 T hr ds G post px h tk hp => ?_)
  · obtain ⟨_, rfl, _⟩ := h; rfl
  obtain ⟨⟨steps_here1, end2, place3⟩, rfl, h⟩ := h
  unfold m_law_next at h
  try dsimp only at h
  have nd := sc_law_next.nd
  refine wb_env [.sh ((eL (eP eZ eI)) steps_here1), .sh (eI end2), .sh (eI place3), .no] rfl ?_
  -- 243
  refine wb_cons (ws_ret ?_)
  refine we_lcQ [("_law_laying", 3)] rfl nd (blkOk_by (by rfl)) (lc1_pre [("_law_laying", 3)] [.sh ((eL (eP eZ eI)) steps_here1), .sh (eI end2), .sh (eI place3), .no] (en := (eP eZ eI)) (eP (eP eZ eI) eI) (fun x4 => (decide ((0 : Int) ≤ (place3 + x4.2))) && (decide ((place3 + x4.2) ≤ end2))) (fun (x4 : (S × Int)) => (x4, place3 + x4.2)) ?_)
  refine ti_lst (f := (eP eZ eI)) ?_
  refine we_var 0 rfl (by walk_at "vis") rfl ?_
  refine ⟨steps_here1, _, rfl, fun hl5 => ?_⟩
  refine ⟨steps_here1, rfl, hl5, Wk.refl _, fun x4 => ?_, ?_⟩
  · skip
    rintro Y ⟨s1, H1, C1, cl, fp, rfl⟩
    refine wg_name 3 nd rfl (by walk_at "vis") (by decide) (lt_ rfl) ?_
    rintro Y ⟨s1, H1, C1, cl, fp, rfl⟩
    refine wt_chainI (fun i j R q => opw_le q) (fun i j R q => opw_le q) ?_
    refine we_int ?_
    refine we_bin ?_
    refine we_var 2 rfl (by walk_at "vis") rfl ?_
    refine we_ix (fun _ _ => rfl) ?_
    refine we_var 3 rfl (by walk_at "vis") rfl ?_
    refine we_int ?_
    refine ⟨_, _, .inl rfl, .inl rfl, ?_⟩
    refine ixw_tup (xs := [eZ x4.1, eI x4.2]) (i := (1 : Int)) rfl ?_
    refine ⟨_, _, .inl rfl, .inl rfl, ?_⟩
    refine opw_add ?_
    refine ⟨_, _, end2, rfl, rfl, fun _ => ?_, ?_⟩
    · skip
      refine we_var 1 rfl (by walk_at "vis") rfl ?_
      exact ⟨rfl, rfl, rfl⟩
    refine ⟨rfl, fun _ => ?_, fun _ => ?_⟩
    · skip
      rintro Y ⟨s1, H1, C1, cl, fp, rfl⟩
      refine we_tup ?_
      refine wa_cons ?_
      refine we_var 3 rfl (by walk_at "vis") rfl ?_
      refine ⟨_, _, rfl, ?_⟩
      refine wa_cons ?_
      refine we_bin ?_
      refine we_var 2 rfl (by walk_at "vis") rfl ?_
      refine we_ix (fun _ _ => rfl) ?_
      refine we_var 3 rfl (by walk_at "vis") rfl ?_
      refine we_int ?_
      refine ⟨_, _, .inl rfl, .inl rfl, ?_⟩
      refine ixw_tup (xs := [eZ x4.1, eI x4.2]) (i := (1 : Int)) rfl ?_
      refine ⟨_, _, .inl rfl, .inl rfl, ?_⟩
      refine opw_add ?_
      refine ⟨_, _, rfl, ?_⟩
      refine wa_nil ?_
      refine ⟨lt_ rfl, ?_⟩
      exact ⟨_, rfl, Wk.refl _, rfl⟩
    exact ⟨Wk.refl _, rfl⟩
  refine ⟨_, rfl, ?_⟩
  exact h
theorem ok_law {f : Addr} {fd : FuncData} (F : Fun K "law" "law" s_law f fd) (B : Bn mg) (c_law_alike_2 : Cal P w K mg base "_law_alike" 5 ["_law_found", "_law_due"] (alikeF 2)) (c_law_begun : Cal P w K mg base "_law_begun" 3 ["_law_script"] (FBegun m_law_begun)) (c_law_next : Cal P w K mg base "_law_next" 3 ["_law_steps_here", "_law_end", "_law_place"] (FM cx (A := (List ((S × Int))) × Int × Int) (R := List (((S × Int) × Int))) (fun a => [(eL (eP eZ eI)) a.1, eI a.2.1, eI a.2.2]) (fun v => .fr ((eL (eP (eP eZ eI) eI)) v)) (fun a => .ok (m_law_next a.1 a.2.1 a.2.2)))) (c_law_rack : Cal P w K mg base "_law_rack" 10 ["_law_box", "_law_many", "_law_most", "_law_length"] (FB (A := Int × Int × Int) (R := Rak) (fun a => [eI a.1, eI a.2.1, eI a.2.2]) (fun v => .sh ((eRak C_Rack C_Ruler) v)) (fun a => m_law_rack a.1 a.2.1 a.2.2))) (c_law_steps : Cal P w K mg base "_law_steps" 6 ["_law_rack_here"] (FM cx (A := Rak) (R := List ((S × Int))) (fun a => [(eRak C_Rack C_Ruler) a]) (fun v => .fr ((eL (eP eZ eI)) v)) (fun a => m_law_steps a))) (c_law_take : Cal P w K mg base "_law_take" 3 ["_law_box", "_law_many"] (FB (A := Int) (R := Int) (fun a => [eI a]) (fun v => .sh (eI v)) (fun a => m_law_take a))) (c_row_at : Cal P w K mg base "row_at" 13 ["rack", "end", "begin", "goal", "number", "index"] (FM cx (A := Rak × Int × Int × Int × Int × Int) (R := List ((S × Int))) (fun a => [(eRak C_Rack C_Ruler) a.1, eI a.2.1, eI a.2.2.1, eI a.2.2.2.1, eI a.2.2.2.2.1, eI a.2.2.2.2.2]) (fun v => .fr ((eL (eP eZ eI)) v)) (fun a => m_row_at a.1 a.2.1 a.2.2.1 a.2.2.2.1 a.2.2.2.2.1 a.2.2.2.2.2))) (c_row_count : Cal P w K mg base "row_count" 13 ["rack", "end", "begin", "goal", "number"] (FM cx (A := Rak × Int × Int × Int × Int) (R := Int) (fun a => [(eRak C_Rack C_Ruler) a.1, eI a.2.1, eI a.2.2.1, eI a.2.2.2.1, eI a.2.2.2.2]) (fun v => .sh (eI v)) (fun a => m_row_count a.1 a.2.1 a.2.2.1 a.2.2.2.1 a.2.2.2.2))) : FnOk P w K mg base (L2.CX P w) 15 f fd ["_law_script"] (spD K (FLaw m_law)) := by
  refine def_ok F sc_law (fun ds G post px h => ?_) (fun cdv A outer s H E F0 T hr ds G0 post px h tk hp => ?_)
  · obtain ⟨_, rfl, _⟩ := h; rfl
  obtain ⟨script1, rfl, h⟩ := h
  unfold m_law at h
  try dsimp only at h
  have nd := sc_law.nd
  refine wb_env [.sh (D.scr script1), .no, .no, .no, .no, .no, .no, .no, .no, .no, .no, .no, .no, .no, .no, .no] rfl ?_
  -- 245
  refine wb_cons (ws_set 1 nd rfl (by walk_at "vis") ?_)
  refine we_cal tk c_law_begun hr rfl ?_
  refine wa_cons ?_
  refine we_var 0 rfl (by walk_at "vis") rfl ?_
  refine ⟨_, _, rfl, ?_⟩
  refine wa_nil ?_
  refine ⟨script1, rfl, fun b g hne hb0 hg0 => ?_⟩
  refine ⟨lt_ rfl, _, rfl, ?_⟩
  refine wb_env [.sh (D.scr script1), .sh (.adr b), .no, .no, .no, .no, .no, .no, .no, .no, .no, .no, .no, .no, .no, .no] rfl ?_
  -- 246
  refine wb_cons (ws_par 2 3 rfl nd rfl rfl (by decide) rfl rfl (by rfl) ?_)
  refine we_cal tk c_law_rack hr rfl ?_
  refine wa_cons ?_
  refine we_var 1 rfl (by walk_at "vis") rfl ?_
  refine ⟨_, _, rfl, ?_⟩
  refine wa_cons ?_
  refine we_int ?_
  refine ⟨_, _, rfl, ?_⟩
  refine wa_cons ?_
  refine we_int ?_
  refine ⟨_, _, rfl, ?_⟩
  refine wa_cons ?_
  refine we_int ?_
  refine ⟨_, _, rfl, ?_⟩
  refine wa_nil ?_
  refine ⟨((2 : Int), (4 : Int), (9 : Int)), G0, b, g, (m_law_begun script1), hne, rfl, rfl, (Out.sb h).imp (fun r2 h => ?_) (fun _ he => he.elim)⟩
  refine ⟨_, _, rfl, ?_⟩
  refine we_bin ?_
  refine we_int ?_
  refine we_cal tk c_law_take hr rfl ?_
  refine wa_cons ?_
  refine we_var 1 rfl (by walk_at "vis") rfl ?_
  refine ⟨_, _, rfl, ?_⟩
  refine wa_cons ?_
  refine we_int ?_
  refine ⟨_, _, rfl, ?_⟩
  refine wa_nil ?_
  refine ⟨(12 : Int), G0, b, g, r2.2, hne, rfl, rfl, (Out.sb h).imp (fun r3 h => ?_) (fun _ he => he.elim)⟩
  refine ⟨_, _, .inl rfl, .inl rfl, ?_⟩
  refine opw_add ?_
  refine ⟨_, _, rfl, lt_ rfl, lt_ rfl, ?_⟩
  refine wb_let h (fun rack_here4 => [.sh (D.scr script1), .sh (.adr b), .sh ((eRak C_Rack C_Ruler) rack_here4), .sh (eI ((9 : Int) + r3.1)), .no, .no, .no, .no, .no, .no, .no, .no, .no, .no, .no, .no]) rfl fun rack_here4 h => ?_
  refine wb_let h (fun end5 => [.sh (D.scr script1), .sh (.adr b), .sh ((eRak C_Rack C_Ruler) rack_here4), .sh (eI end5), .no, .no, .no, .no, .no, .no, .no, .no, .no, .no, .no, .no]) rfl fun end5 h => ?_
  -- 247
  refine wb_cons (ws_par3 4 5 6 rfl nd rfl rfl rfl (by decide) (by decide) (by decide) rfl rfl rfl (by rfl) ?_)
  refine we_cal tk c_law_steps hr rfl ?_
  refine wa_cons ?_
  refine we_var 2 rfl (by walk_at "vis") rfl ?_
  refine ⟨_, _, rfl, ?_⟩
  refine wa_nil ?_
  refine ⟨rack_here4, rfl, (Out.sb h).imp (fun r6 h => ?_) (fun _ he => he.elim)⟩
  refine ⟨_, _, rfl, ?_⟩
  refine we_cal tk c_law_take hr rfl ?_
  refine wa_cons ?_
  refine we_var 1 rfl (by walk_at "vis") rfl ?_
  refine ⟨_, _, rfl, ?_⟩
  refine wa_cons ?_
  refine we_bin ?_
  refine we_var 3 rfl (by walk_at "vis") rfl ?_
  refine we_int ?_
  refine ⟨_, _, .inl rfl, .inl rfl, ?_⟩
  refine opw_add ?_
  refine ⟨_, _, rfl, ?_⟩
  refine wa_nil ?_
  refine ⟨end5 + (1 : Int), G0, b, g, r3.2, hne, rfl, rfl, (Out.sb h).imp (fun r7 h => ?_) (fun _ he => he.elim)⟩
  refine ⟨_, _, rfl, ?_⟩
  refine we_lst ?_
  refine wa_nil ?_
  refine ⟨by decide, ?_⟩
  refine ⟨_, _, rfl, lt_ rfl, lt_ rfl, lt_ rfl, ?_⟩
  refine wb_let h (fun steps_here8 => [.sh (D.scr script1), .sh (.adr b), .sh ((eRak C_Rack C_Ruler) rack_here4), .sh (eI end5), .own ((eL (eP eZ eI)) steps_here8), .sh (eI r7.1), .own ((eL (eP eZ eI)) ([] : List ((S × Int)))), .no, .no, .no, .no, .no, .no, .no, .no, .no]) rfl fun steps_here8 h => ?_
  refine wb_let h (fun begin9 => [.sh (D.scr script1), .sh (.adr b), .sh ((eRak C_Rack C_Ruler) rack_here4), .sh (eI end5), .own ((eL (eP eZ eI)) steps_here8), .sh (eI begin9), .own ((eL (eP eZ eI)) ([] : List ((S × Int)))), .no, .no, .no, .no, .no, .no, .no, .no, .no]) rfl fun begin9 h => ?_
  refine wb_let h (fun row10 => [.sh (D.scr script1), .sh (.adr b), .sh ((eRak C_Rack C_Ruler) rack_here4), .sh (eI end5), .own ((eL (eP eZ eI)) steps_here8), .sh (eI begin9), .own ((eL (eP eZ eI)) row10), .no, .no, .no, .no, .no, .no, .no, .no, .no]) rfl fun row10 h => ?_
  -- 248
  refine wb_cons (ws_set 7 nd rfl (by walk_at "vis") ?_)
  refine we_var 5 rfl (by walk_at "vis") rfl ?_
  refine ⟨lt_ rfl, _, rfl, ?_⟩
  refine wb_env [.sh (D.scr script1), .sh (.adr b), .sh ((eRak C_Rack C_Ruler) rack_here4), .sh (eI end5), .own ((eL (eP eZ eI)) steps_here8), .sh (eI begin9), .own ((eL (eP eZ eI)) row10), .sh (eI begin9), .no, .no, .no, .no, .no, .no, .no, .no] rfl ?_
  -- 249
  refine wb_frz 4 rfl rfl ?_
  refine wb_env [.sh (D.scr script1), .sh (.adr b), .sh ((eRak C_Rack C_Ruler) rack_here4), .sh (eI end5), .sh ((eL (eP eZ eI)) steps_here8), .sh (eI begin9), .own ((eL (eP eZ eI)) row10), .sh (eI begin9), .no, .no, .no, .no, .no, .no, .no, .no] rfl ?_
  refine wb_forO (β := Bool) [8] (σT := Int × (List ((S × Int))) × Bx) (fun s11 => [.sh (D.scr script1), .sh (.adr b), .sh ((eRak C_Rack C_Ruler) rack_here4), .sh (eI end5), .sh ((eL (eP eZ eI)) steps_here8), .sh (eI begin9), .own ((eL (eP eZ eI)) s11.2.1), .sh (eI s11.1), .no, .no, .no, .no, .no, .no, .no, .no]) (fun s11 => bxG G0 b g s11.2.2) eI hp rfl ?_
  refine wi_rng1 rfl B.range ?_
  refine we_cal tk c_law_take hr rfl ?_
  refine wa_cons ?_
  refine we_var 1 rfl (by walk_at "vis") rfl ?_
  refine ⟨_, _, rfl, ?_⟩
  refine wa_cons ?_
  refine we_int ?_
  refine ⟨_, _, rfl, ?_⟩
  refine wa_nil ?_
  refine ⟨(61 : Int), G0, b, g, r7.2, hne, rfl, rfl, (Out.sb h).imp (fun r14 h => ?_) (fun _ he => he.elim)⟩
  obtain ⟨g15, h⟩ := Out.gd h
  refine ⟨r14.1, rfl, g15, ?_⟩
  refine ⟨(rgI 0 r14.1), (begin9, row10, r14.2), _, _, _, _, rfl, (.eq (.eq (.eq (.eq (.eq (.eq (.eq (.eq (.no (.no (.no (.no (.no (.no (.no (.no .nil)))))))))))))))), rfl, h, fun s11 x13 Q' h => ?_, fun s12 h => ?_⟩
  · skip
    refine wg_name 8 nd rfl (by walk_at "vis") (by decide) (lt_ rfl) ?_
    refine wb_env [.sh (D.scr script1), .sh (.adr b), .sh ((eRak C_Rack C_Ruler) rack_here4), .sh (eI end5), .sh ((eL (eP eZ eI)) steps_here8), .sh (eI begin9), .own ((eL (eP eZ eI)) s11.2.1), .sh (eI s11.1), .sh (eI x13), .no, .no, .no, .no, .no, .no, .no] rfl ?_
    -- 250
    refine wb_cons (ws_set 9 nd rfl (by walk_at "vis") ?_)
    refine we_cal tk c_law_next hr rfl ?_
    refine wa_cons ?_
    refine we_var 4 rfl (by walk_at "vis") rfl ?_
    refine ⟨_, _, rfl, ?_⟩
    refine wa_cons ?_
    refine we_var 3 rfl (by walk_at "vis") rfl ?_
    refine ⟨_, _, rfl, ?_⟩
    refine wa_cons ?_
    refine we_var 7 rfl (by walk_at "vis") rfl ?_
    refine ⟨_, _, rfl, ?_⟩
    refine wa_nil ?_
    refine ⟨(steps_here8, end5, s11.1), rfl, ?_⟩
    refine ⟨lt_ rfl, _, rfl, ?_⟩
    refine wb_let h (fun some17 => [.sh (D.scr script1), .sh (.adr b), .sh ((eRak C_Rack C_Ruler) rack_here4), .sh (eI end5), .sh ((eL (eP eZ eI)) steps_here8), .sh (eI begin9), .own ((eL (eP eZ eI)) s11.2.1), .sh (eI s11.1), .sh (eI x13), .own ((eL (eP (eP eZ eI) eI)) some17), .no, .no, .no, .no, .no, .no]) rfl fun some17 h => ?_
    -- 251
    refine wb_join (β := (Int × (List ((S × Int))) × Bx)) (σT := Int × (List ((S × Int))) × Bx) (fun s18 => [.sh (D.scr script1), .sh (.adr b), .sh ((eRak C_Rack C_Ruler) rack_here4), .sh (eI end5), .sh ((eL (eP eZ eI)) steps_here8), .sh (eI begin9), .own ((eL (eP eZ eI)) s18.2.1), .sh (eI s18.1), .sh (eI x13), .own ((eL (eP (eP eZ eI) eI)) some17), .no, .no, .no, .no, .no, .no]) (fun s18 => bxG G0 b g s18.2.2) h (fun Q' h => ?_) (fun s18 h => ?_)
    · skip
      refine ws_if ?_
      refine wt_cmp (nomark _) ?_
      refine we_var 9 rfl (by walk_at "vis") rfl ?_
      refine we_lst ?_
      refine wa_nil ?_
      refine ⟨by decide, ?_⟩
      refine ⟨_, _, .inl rfl, .inl rfl, ?_⟩
      refine opw_neC (eqc_lst (eqc_pair (eqc_pair eqc_str eqc_int) (EqC.up eqc_int (by decide : 0 ≤ 1)))) (by exact hr.units) some17 ([] : List (((S × Int) × Int))) ?_
      refine ⟨_, rfl, ?_⟩
      refine ⟨fun hc => ?_, fun hc => ?_⟩
      · skip
        have h := (Out.iteb h).1 hc
        -- 252
        refine wb_cons (ws_unp2 10 7 rfl nd rfl rfl (by walk_at "vis") (by walk_at "vis") ?_)
        refine we_ix (fun _ _ => rfl) ?_
        refine we_var 9 rfl (by walk_at "vis") rfl ?_
        refine we_cal tk c_law_take hr rfl ?_
        refine wa_cons ?_
        refine we_var 1 rfl (by walk_at "vis") rfl ?_
        refine ⟨_, _, rfl, ?_⟩
        refine wa_cons ?_
        refine we_b1 (x := "len") (id := "len") rfl B.len bt_len ?_
        refine we_var 9 rfl (by walk_at "vis") rfl ?_
        refine ⟨_, .inl rfl, ?_⟩
        refine t_len (f := (eP (eP eZ eI) eI)) some17 ?_
        refine ⟨_, _, rfl, ?_⟩
        refine wa_nil ?_
        refine ⟨((some17).length : Int), G0, b, g, s11.2.2, hne, rfl, rfl, (Out.sb h).imp (fun r19 h => ?_) (fun _ he => he.elim)⟩
        obtain ⟨x20, hx20, h⟩ := Out.gt h
        refine ⟨_, _, .inl rfl, .inl rfl, ?_⟩
        refine t_ix (f := (eP (eP eZ eI) eI)) hx20 ?_
        refine ⟨_, _, _, rfl, lt_ rfl, lt_ rfl, ?_⟩
        refine wb_let h (fun laying21 => [.sh (D.scr script1), .sh (.adr b), .sh ((eRak C_Rack C_Ruler) rack_here4), .sh (eI end5), .sh ((eL (eP eZ eI)) steps_here8), .sh (eI begin9), .own ((eL (eP eZ eI)) s11.2.1), .sh (eI x20.2), .sh (eI x13), .own ((eL (eP (eP eZ eI) eI)) some17), .sh ((eP eZ eI) laying21), .no, .no, .no, .no, .no]) rfl fun laying21 h => ?_
        refine wb_let h (fun place22 => [.sh (D.scr script1), .sh (.adr b), .sh ((eRak C_Rack C_Ruler) rack_here4), .sh (eI end5), .sh ((eL (eP eZ eI)) steps_here8), .sh (eI begin9), .own ((eL (eP eZ eI)) s11.2.1), .sh (eI place22), .sh (eI x13), .own ((eL (eP (eP eZ eI) eI)) some17), .sh ((eP eZ eI) laying21), .no, .no, .no, .no, .no]) rfl fun place22 h => ?_
        -- 253
        refine wb_cons (ws_expr ?_)
        refine we_appendT (f := (eP eZ eI)) ?_
        refine we_var 6 rfl (by walk_at "vis") rfl ?_
        refine ⟨_, s11.2.1, rfl, rfl, ?_⟩
        refine we_var 10 rfl (by walk_at "vis") rfl ?_
        obtain ⟨g24, h⟩ := Out.gd h
        refine ⟨laying21, _, s11.2.1, rfl, rfl, g24, ?_⟩
        refine wb_let h (fun row25 => [.sh (D.scr script1), .sh (.adr b), .sh ((eRak C_Rack C_Ruler) rack_here4), .sh (eI end5), .sh ((eL (eP eZ eI)) steps_here8), .sh (eI begin9), .own ((eL (eP eZ eI)) row25), .sh (eI place22), .sh (eI x13), .own ((eL (eP (eP eZ eI) eI)) some17), .sh ((eP eZ eI) laying21), .no, .no, .no, .no, .no]) rfl fun row25 h => ?_
        exact wb_nil ⟨(place22, row25, r19.2), (.eq (.eq (.eq (.eq (.eq (.eq (.eq (.eq (.eq (.eq (.no (.no (.no (.no (.no (.no .nil)))))))))))))))), rfl, h⟩
      have h := (Out.iteb h).2 hc
      exact wb_nil ⟨(s11.1, s11.2.1, s11.2.2), (.eq (.eq (.eq (.eq (.eq (.eq (.eq (.eq (.eq (.eq (.no (.no (.no (.no (.no (.no .nil)))))))))))))))), rfl, h⟩
    exact wb_nil ⟨(s18.1, s18.2.1, s18.2.2), (.eq (.eq (.eq (.eq (.eq (.eq (.eq (.eq (.no (.no (.no (.no (.no (.no (.no (.no .nil)))))))))))))))), rfl, h⟩
  -- 254
  refine wb_cons (ws_par3 11 12 13 rfl nd rfl rfl rfl (by decide) (by decide) (by decide) rfl rfl rfl (by rfl) ?_)
  refine we_var 7 rfl (by walk_at "vis") rfl ?_
  refine ⟨_, _, rfl, ?_⟩
  refine we_var 5 rfl (by walk_at "vis") rfl ?_
  refine ⟨_, _, rfl, ?_⟩
  refine we_int ?_
  refine ⟨_, _, rfl, lt_ rfl, lt_ rfl, lt_ rfl, ?_⟩
  refine wb_let h (fun goal26 => [.sh (D.scr script1), .sh (.adr b), .sh ((eRak C_Rack C_Ruler) rack_here4), .sh (eI end5), .sh ((eL (eP eZ eI)) steps_here8), .sh (eI begin9), .own ((eL (eP eZ eI)) s12.2.1), .sh (eI s12.1), .no, .no, .no, .sh (eI goal26), .sh (eI begin9), .sh (eI (0 : Int)), .no, .no]) rfl fun goal26 h => ?_
  refine wb_let h (fun here27 => [.sh (D.scr script1), .sh (.adr b), .sh ((eRak C_Rack C_Ruler) rack_here4), .sh (eI end5), .sh ((eL (eP eZ eI)) steps_here8), .sh (eI begin9), .own ((eL (eP eZ eI)) s12.2.1), .sh (eI s12.1), .no, .no, .no, .sh (eI goal26), .sh (eI here27), .sh (eI (0 : Int)), .no, .no]) rfl fun here27 h => ?_
  refine wb_let h (fun index28 => [.sh (D.scr script1), .sh (.adr b), .sh ((eRak C_Rack C_Ruler) rack_here4), .sh (eI end5), .sh ((eL (eP eZ eI)) steps_here8), .sh (eI begin9), .own ((eL (eP eZ eI)) s12.2.1), .sh (eI s12.1), .no, .no, .no, .sh (eI goal26), .sh (eI here27), .sh (eI index28), .no, .no]) rfl fun index28 h => ?_
  -- 255
  refine wb_forO (β := Bool) [8] (σT := Int × Int) (fun s29 => [.sh (D.scr script1), .sh (.adr b), .sh ((eRak C_Rack C_Ruler) rack_here4), .sh (eI end5), .sh ((eL (eP eZ eI)) steps_here8), .sh (eI begin9), .own ((eL (eP eZ eI)) s12.2.1), .sh (eI s12.1), .no, .no, .no, .sh (eI goal26), .sh (eI s29.2), .sh (eI s29.1), .no, .no]) (fun s29 => bxG G0 b g s12.2.2) eI hp rfl ?_
  refine wi_rng1 rfl B.range ?_
  refine we_b1 (x := "len") (id := "len") rfl B.len bt_len ?_
  refine we_var 6 rfl (by walk_at "vis") rfl ?_
  refine ⟨_, .inl rfl, ?_⟩
  refine t_len (f := (eP eZ eI)) s12.2.1 ?_
  obtain ⟨g32, h⟩ := Out.gd h
  refine ⟨((s12.2.1).length : Int), rfl, g32, ?_⟩
  refine ⟨(rgI 0 ((s12.2.1).length : Int)), (index28, here27), _, _, _, _, rfl, (.eq (.eq (.eq (.eq (.eq (.eq (.eq (.eq (.no (.no (.no (.eq (.eq (.eq (.no (.no .nil)))))))))))))))), rfl, h, fun s29 x31 Q' h => ?_, fun s30 h => ?_⟩
  · skip
    refine wg_name 8 nd rfl (by walk_at "vis") (by decide) (lt_ rfl) ?_
    refine wb_env [.sh (D.scr script1), .sh (.adr b), .sh ((eRak C_Rack C_Ruler) rack_here4), .sh (eI end5), .sh ((eL (eP eZ eI)) steps_here8), .sh (eI begin9), .own ((eL (eP eZ eI)) s12.2.1), .sh (eI s12.1), .sh (eI x31), .no, .no, .sh (eI goal26), .sh (eI s29.2), .sh (eI s29.1), .no, .no] rfl ?_
    -- 256
    refine wb_forO (β := (Int × Int)) [10, 14] (σT := Int) (fun s33 => [.sh (D.scr script1), .sh (.adr b), .sh ((eRak C_Rack C_Ruler) rack_here4), .sh (eI end5), .sh ((eL (eP eZ eI)) steps_here8), .sh (eI begin9), .own ((eL (eP eZ eI)) s12.2.1), .sh (eI s12.1), .sh (eI x31), .no, .no, .sh (eI goal26), .sh (eI s29.2), .sh (eI s33), .no, .no]) (fun s33 => bxG G0 b g s12.2.2) (eP (eP eZ eI) eI) hp rfl ?_
    refine ti_lst (f := (eP (eP eZ eI) eI)) ?_
    refine we_cal tk c_law_next hr rfl ?_
    refine wa_cons ?_
    refine we_var 4 rfl (by walk_at "vis") rfl ?_
    refine ⟨_, _, rfl, ?_⟩
    refine wa_cons ?_
    refine we_var 3 rfl (by walk_at "vis") rfl ?_
    refine ⟨_, _, rfl, ?_⟩
    refine wa_cons ?_
    refine we_var 12 rfl (by walk_at "vis") rfl ?_
    refine ⟨_, _, rfl, ?_⟩
    refine wa_nil ?_
    refine ⟨(steps_here8, end5, s29.2), rfl, ?_⟩
    refine ⟨(m_law_next steps_here8 end5 s29.2), _, rfl, fun hl37 => ?_⟩
    refine ⟨(m_law_next steps_here8 end5 s29.2), s29.1, _, _, _, _, rfl, (.eq (.eq (.eq (.eq (.eq (.eq (.eq (.eq (.eq (.no (.no (.eq (.eq (.eq (.no (.no .nil)))))))))))))))), rfl, h, fun s33 x35 Q' h => ?_, fun s34 h => ?_⟩
    · skip
      refine wg_pair 10 14 rfl nd rfl rfl (by walk_at "vis") (by walk_at "vis") (by decide) (by decide) (lt_ rfl) (lt_ rfl) ?_
      refine wb_env [.sh (D.scr script1), .sh (.adr b), .sh ((eRak C_Rack C_Ruler) rack_here4), .sh (eI end5), .sh ((eL (eP eZ eI)) steps_here8), .sh (eI begin9), .own ((eL (eP eZ eI)) s12.2.1), .sh (eI s12.1), .sh (eI x31), .no, .sh ((eP eZ eI) x35.1), .sh (eI goal26), .sh (eI s29.2), .sh (eI s33), .sh (eI x35.2), .no] rfl ?_
      -- 257
      refine wb_join (β := (Int)) (σT := Int) (fun s38 => [.sh (D.scr script1), .sh (.adr b), .sh ((eRak C_Rack C_Ruler) rack_here4), .sh (eI end5), .sh ((eL (eP eZ eI)) steps_here8), .sh (eI begin9), .own ((eL (eP eZ eI)) s12.2.1), .sh (eI s12.1), .sh (eI x31), .no, .sh ((eP eZ eI) x35.1), .sh (eI goal26), .sh (eI s29.2), .sh (eI s38), .sh (eI x35.2), .no]) (fun s38 => bxG G0 b g s12.2.2) h (fun Q' h => ?_) (fun s38 h => ?_)
      · skip
        refine ws_if ?_
        refine wt_cmp (nomark _) ?_
        refine we_var 10 rfl (by walk_at "vis") rfl ?_
        refine we_ix (fun _ _ => rfl) ?_
        refine we_var 6 rfl (by walk_at "vis") rfl ?_
        refine we_var 8 rfl (by walk_at "vis") rfl ?_
        obtain ⟨x39, hx39, h⟩ := Out.gt h
        refine ⟨_, _, .inl rfl, .inl rfl, ?_⟩
        refine t_ix (f := (eP eZ eI)) hx39 ?_
        refine ⟨_, _, .inl rfl, .inl rfl, ?_⟩
        refine opw_ltC (orc_pair orc_str orc_int) (by exact hr.units) x35.1 x39 ?_
        refine ⟨_, rfl, ?_⟩
        refine ⟨fun hc => ?_, fun hc => ?_⟩
        · skip
          have h := (Out.iteb h).1 hc
          -- 258
          refine wb_cons (ws_set 13 nd rfl (by walk_at "vis") ?_)
          refine we_bin ?_
          refine we_var 13 rfl (by walk_at "vis") rfl ?_
          refine we_cal tk c_row_count hr rfl ?_
          refine wa_cons ?_
          refine we_var 2 rfl (by walk_at "vis") rfl ?_
          refine ⟨_, _, rfl, ?_⟩
          refine wa_cons ?_
          refine we_var 3 rfl (by walk_at "vis") rfl ?_
          refine ⟨_, _, rfl, ?_⟩
          refine wa_cons ?_
          refine we_var 14 rfl (by walk_at "vis") rfl ?_
          refine ⟨_, _, rfl, ?_⟩
          refine wa_cons ?_
          refine we_var 11 rfl (by walk_at "vis") rfl ?_
          refine ⟨_, _, rfl, ?_⟩
          refine wa_cons ?_
          refine we_bin ?_
          refine we_bin ?_
          refine we_b1 (x := "len") (id := "len") rfl B.len bt_len ?_
          refine we_var 6 rfl (by walk_at "vis") rfl ?_
          refine ⟨_, .inl rfl, ?_⟩
          refine t_len (f := (eP eZ eI)) s12.2.1 ?_
          refine we_var 8 rfl (by walk_at "vis") rfl ?_
          refine ⟨_, _, .inl rfl, .inl rfl, ?_⟩
          refine opw_sub ?_
          refine we_int ?_
          refine ⟨_, _, .inl rfl, .inl rfl, ?_⟩
          refine opw_sub ?_
          refine ⟨_, _, rfl, ?_⟩
          refine wa_nil ?_
          refine ⟨(rack_here4, end5, x35.2, goal26, (((s12.2.1).length : Int) - x31) - (1 : Int)), rfl, (Out.sb h).imp (fun r40 h => ?_) (fun _ he => he.elim)⟩
          refine ⟨_, _, .inl rfl, .inl rfl, ?_⟩
          refine opw_add ?_
          refine ⟨lt_ rfl, _, rfl, ?_⟩
          refine wb_let h (fun index41 => [.sh (D.scr script1), .sh (.adr b), .sh ((eRak C_Rack C_Ruler) rack_here4), .sh (eI end5), .sh ((eL (eP eZ eI)) steps_here8), .sh (eI begin9), .own ((eL (eP eZ eI)) s12.2.1), .sh (eI s12.1), .sh (eI x31), .no, .sh ((eP eZ eI) x35.1), .sh (eI goal26), .sh (eI s29.2), .sh (eI index41), .sh (eI x35.2), .no]) rfl fun index41 h => ?_
          exact wb_nil ⟨index41, (.eq (.eq (.eq (.eq (.eq (.eq (.eq (.eq (.eq (.no (.eq (.eq (.eq (.eq (.eq (.no .nil)))))))))))))))), rfl, h⟩
        have h := (Out.iteb h).2 hc
        exact wb_nil ⟨s33, (.eq (.eq (.eq (.eq (.eq (.eq (.eq (.eq (.eq (.no (.eq (.eq (.eq (.eq (.eq (.no .nil)))))))))))))))), rfl, h⟩
      exact wb_nil ⟨s38, (.eq (.eq (.eq (.eq (.eq (.eq (.eq (.eq (.eq (.no (.no (.eq (.eq (.eq (.no (.no .nil)))))))))))))))), rfl, h⟩
    -- 259
    refine wb_cons (ws_set 12 nd rfl (by walk_at "vis") ?_)
    refine we_bin ?_
    refine we_var 12 rfl (by walk_at "vis") rfl ?_
    refine we_ix (fun _ _ => rfl) ?_
    refine we_ix (fun _ _ => rfl) ?_
    refine we_var 6 rfl (by walk_at "vis") rfl ?_
    refine we_var 8 rfl (by walk_at "vis") rfl ?_
    obtain ⟨x42, hx42, h⟩ := Out.gt h
    refine ⟨_, _, .inl rfl, .inl rfl, ?_⟩
    refine t_ix (f := (eP eZ eI)) hx42 ?_
    refine we_int ?_
    refine ⟨_, _, .inl rfl, .inl rfl, ?_⟩
    refine ixw_tup (xs := [eZ x42.1, eI x42.2]) (i := (1 : Int)) rfl ?_
    refine ⟨_, _, .inl rfl, .inl rfl, ?_⟩
    refine opw_add ?_
    refine ⟨lt_ rfl, _, rfl, ?_⟩
    refine wb_let h (fun here43 => [.sh (D.scr script1), .sh (.adr b), .sh ((eRak C_Rack C_Ruler) rack_here4), .sh (eI end5), .sh ((eL (eP eZ eI)) steps_here8), .sh (eI begin9), .own ((eL (eP eZ eI)) s12.2.1), .sh (eI s12.1), .sh (eI x31), .no, .no, .sh (eI goal26), .sh (eI here43), .sh (eI s34), .no, .no]) rfl fun here43 h => ?_
    exact wb_nil ⟨(s34, here43), (.eq (.eq (.eq (.eq (.eq (.eq (.eq (.eq (.no (.no (.no (.eq (.eq (.eq (.no (.no .nil)))))))))))))))), rfl, h⟩
  -- 260
  refine wb_cons (ws_set 15 nd rfl (by walk_at "vis") ?_)
  refine we_cal tk c_row_count hr rfl ?_
  refine wa_cons ?_
  refine we_var 2 rfl (by walk_at "vis") rfl ?_
  refine ⟨_, _, rfl, ?_⟩
  refine wa_cons ?_
  refine we_var 3 rfl (by walk_at "vis") rfl ?_
  refine ⟨_, _, rfl, ?_⟩
  refine wa_cons ?_
  refine we_var 5 rfl (by walk_at "vis") rfl ?_
  refine ⟨_, _, rfl, ?_⟩
  refine wa_cons ?_
  refine we_var 11 rfl (by walk_at "vis") rfl ?_
  refine ⟨_, _, rfl, ?_⟩
  refine wa_cons ?_
  refine we_b1 (x := "len") (id := "len") rfl B.len bt_len ?_
  refine we_var 6 rfl (by walk_at "vis") rfl ?_
  refine ⟨_, .inl rfl, ?_⟩
  refine t_len (f := (eP eZ eI)) s12.2.1 ?_
  refine ⟨_, _, rfl, ?_⟩
  refine wa_nil ?_
  refine ⟨(rack_here4, end5, begin9, goal26, ((s12.2.1).length : Int)), rfl, (Out.sb h).imp (fun r44 h => ?_) (fun _ he => he.elim)⟩
  refine ⟨lt_ rfl, _, rfl, ?_⟩
  refine wb_env [.sh (D.scr script1), .sh (.adr b), .sh ((eRak C_Rack C_Ruler) rack_here4), .sh (eI end5), .sh ((eL (eP eZ eI)) steps_here8), .sh (eI begin9), .own ((eL (eP eZ eI)) s12.2.1), .sh (eI s12.1), .no, .no, .no, .sh (eI goal26), .sh (eI s30.2), .sh (eI s30.1), .no, .sh (eI r44)] rfl ?_
  -- 261
  refine wb_cons (ws_if ?_)
  refine wt_not ?_
  refine wt_chainI (fun i j R q => opw_le q) (fun i j R q => opw_lt q) ?_
  refine we_int ?_
  refine we_var 13 rfl (by walk_at "vis") rfl ?_
  refine ⟨_, _, r44, rfl, rfl, fun _ => ?_, ?_⟩
  · skip
    refine we_var 15 rfl (by walk_at "vis") rfl ?_
    exact ⟨rfl, rfl, rfl⟩
  refine ⟨fun hc => ?_, fun hc => ?_⟩
  · skip
    have h := (Out.iteb h).1 hc
    -- 262
    refine wb_cons (ws_ret ?_)
    refine we_bl ?_
    refine ⟨_, rfl, ?_⟩
    exact h _
  have h := (Out.iteb h).2 hc
  refine wb_nil ?_
  -- 263
  refine wb_cons (ws_if ?_)
  refine wt_not ?_
  refine wt_val (fun _ => rfl) ?_
  refine we_cal tk c_law_alike_2 hr rfl ?_
  refine wa_cons ?_
  refine we_cal tk c_row_at hr rfl ?_
  refine wa_cons ?_
  refine we_var 2 rfl (by walk_at "vis") rfl ?_
  refine ⟨_, _, rfl, ?_⟩
  refine wa_cons ?_
  refine we_var 3 rfl (by walk_at "vis") rfl ?_
  refine ⟨_, _, rfl, ?_⟩
  refine wa_cons ?_
  refine we_var 5 rfl (by walk_at "vis") rfl ?_
  refine ⟨_, _, rfl, ?_⟩
  refine wa_cons ?_
  refine we_var 11 rfl (by walk_at "vis") rfl ?_
  refine ⟨_, _, rfl, ?_⟩
  refine wa_cons ?_
  refine we_b1 (x := "len") (id := "len") rfl B.len bt_len ?_
  refine we_var 6 rfl (by walk_at "vis") rfl ?_
  refine ⟨_, .inl rfl, ?_⟩
  refine t_len (f := (eP eZ eI)) s12.2.1 ?_
  refine ⟨_, _, rfl, ?_⟩
  refine wa_cons ?_
  refine we_var 13 rfl (by walk_at "vis") rfl ?_
  refine ⟨_, _, rfl, ?_⟩
  refine wa_nil ?_
  refine ⟨(rack_here4, end5, begin9, goal26, ((s12.2.1).length : Int), s30.1), rfl, (Out.sb h).imp (fun r45 h => ?_) (fun _ he => he.elim)⟩
  refine ⟨_, _, rfl, ?_⟩
  refine wa_cons ?_
  refine we_var 6 rfl (by walk_at "vis") rfl ?_
  refine ⟨_, _, rfl, ?_⟩
  refine wa_nil ?_
  obtain ⟨g46, h⟩ := Out.gd h
  refine ⟨(eL (eP eZ eI)) r45, congrArg (fun z => [(eL (eP eZ eI)) r45, z]) (congrArg (eL (eP eZ eI)) g46.1).symm, g46.2, ?_⟩
  refine ⟨_, rfl, ?_⟩
  refine ⟨fun hc => ?_, fun hc => ?_⟩
  · skip
    have h := (Out.iteb h).1 hc
    -- 264
    refine wb_cons (ws_ret ?_)
    refine we_bl ?_
    refine ⟨_, rfl, ?_⟩
    exact h _
  have h := (Out.iteb h).2 hc
  refine wb_nil ?_
  -- 265
  refine wb_cons (ws_if ?_)
  refine wt_w ?_
  refine ww_andN ?_
  refine wt_cmp (nomark _) ?_
  refine we_var 13 rfl (by walk_at "vis") rfl ?_
  refine we_int ?_
  refine ⟨_, _, .inl rfl, .inl rfl, ?_⟩
  refine opw_gt ?_
  refine ⟨_, rfl, ?_⟩
  refine ⟨_, _, _, _, _, h, fun _ Q' h => ?_, fun c47 h => ?_⟩
  · skip
    refine ww_and1 ?_
    refine wt_cmp (nomark _) ?_
    refine we_cal tk c_row_at hr rfl ?_
    refine wa_cons ?_
    refine we_var 2 rfl (by walk_at "vis") rfl ?_
    refine ⟨_, _, rfl, ?_⟩
    refine wa_cons ?_
    refine we_var 3 rfl (by walk_at "vis") rfl ?_
    refine ⟨_, _, rfl, ?_⟩
    refine wa_cons ?_
    refine we_var 5 rfl (by walk_at "vis") rfl ?_
    refine ⟨_, _, rfl, ?_⟩
    refine wa_cons ?_
    refine we_var 11 rfl (by walk_at "vis") rfl ?_
    refine ⟨_, _, rfl, ?_⟩
    refine wa_cons ?_
    refine we_b1 (x := "len") (id := "len") rfl B.len bt_len ?_
    refine we_var 6 rfl (by walk_at "vis") rfl ?_
    refine ⟨_, .inl rfl, ?_⟩
    refine t_len (f := (eP eZ eI)) s12.2.1 ?_
    refine ⟨_, _, rfl, ?_⟩
    refine wa_cons ?_
    refine we_bin ?_
    refine we_var 13 rfl (by walk_at "vis") rfl ?_
    refine we_int ?_
    refine ⟨_, _, .inl rfl, .inl rfl, ?_⟩
    refine opw_sub ?_
    refine ⟨_, _, rfl, ?_⟩
    refine wa_nil ?_
    refine ⟨(rack_here4, end5, begin9, goal26, ((s12.2.1).length : Int), s30.1 - (1 : Int)), rfl, (Out.sb h).imp (fun r48 h => ?_) (fun _ he => he.elim)⟩
    refine we_var 6 rfl (by walk_at "vis") rfl ?_
    refine ⟨_, _, .inl rfl, .inl rfl, ?_⟩
    refine opw_geC (orc_lst (orc_pair orc_str orc_int)) (by exact hr.units) r48 s12.2.1 ?_
    refine ⟨_, rfl, ?_⟩
    exact ⟨rfl, rfl, h⟩
  refine ⟨fun hc => ?_, fun hc => ?_⟩
  · skip
    have h := (Out.iteb h).1 hc
    -- 266
    refine wb_cons (ws_ret ?_)
    refine we_bl ?_
    refine ⟨_, rfl, ?_⟩
    exact h _
  have h := (Out.iteb h).2 hc
  refine wb_nil ?_
  -- 267
  refine wb_cons (ws_ret ?_)
  refine we_orN ?_
  refine we_cmp (nomark _) ?_
  refine we_bin ?_
  refine we_var 13 rfl (by walk_at "vis") rfl ?_
  refine we_int ?_
  refine ⟨_, _, .inl rfl, .inl rfl, ?_⟩
  refine opw_add ?_
  refine we_var 15 rfl (by walk_at "vis") rfl ?_
  refine ⟨_, _, .inl rfl, .inl rfl, ?_⟩
  refine opw_eqI ?_
  refine ⟨_, _, _, _, _, _, rfl, h, fun _ Q' h => ?_, fun c49 h => ?_⟩
  · skip
    refine we_one ?_
    refine we_cmp (nomark _) ?_
    refine we_cal tk c_row_at hr rfl ?_
    refine wa_cons ?_
    refine we_var 2 rfl (by walk_at "vis") rfl ?_
    refine ⟨_, _, rfl, ?_⟩
    refine wa_cons ?_
    refine we_var 3 rfl (by walk_at "vis") rfl ?_
    refine ⟨_, _, rfl, ?_⟩
    refine wa_cons ?_
    refine we_var 5 rfl (by walk_at "vis") rfl ?_
    refine ⟨_, _, rfl, ?_⟩
    refine wa_cons ?_
    refine we_var 11 rfl (by walk_at "vis") rfl ?_
    refine ⟨_, _, rfl, ?_⟩
    refine wa_cons ?_
    refine we_b1 (x := "len") (id := "len") rfl B.len bt_len ?_
    refine we_var 6 rfl (by walk_at "vis") rfl ?_
    refine ⟨_, .inl rfl, ?_⟩
    refine t_len (f := (eP eZ eI)) s12.2.1 ?_
    refine ⟨_, _, rfl, ?_⟩
    refine wa_cons ?_
    refine we_bin ?_
    refine we_var 13 rfl (by walk_at "vis") rfl ?_
    refine we_int ?_
    refine ⟨_, _, .inl rfl, .inl rfl, ?_⟩
    refine opw_add ?_
    refine ⟨_, _, rfl, ?_⟩
    refine wa_nil ?_
    refine ⟨(rack_here4, end5, begin9, goal26, ((s12.2.1).length : Int), s30.1 + (1 : Int)), rfl, (Out.sb h).imp (fun r50 h => ?_) (fun _ he => he.elim)⟩
    refine we_var 6 rfl (by walk_at "vis") rfl ?_
    refine ⟨_, _, .inl rfl, .inl rfl, ?_⟩
    refine opw_gtC (orc_lst (orc_pair orc_str orc_int)) (by exact hr.units) r50 s12.2.1 ?_
    exact ⟨_, rfl, rfl, rfl, h⟩
  refine ⟨_, rfl, ?_⟩
  exact h _
theorem law_sp {K : PySem.W.Frag} {H : Hp} {a : Addr} {ns : List Int} (hS : SqL K H a (ns.map V.int)) : spD K (FLaw m_law) [.ref a] H (fun v _ => v = .bl true) fun _ _ _ => False :=
  ⟨H, fun _ => none, [.scr ns], fun x _ => x = .sh (.bl true), fun _ _ => False, Ex.refl _, (fun _ _ h => nomatch h), (fun _ _ h => nomatch h), ⟨_, _, rfl, ⟨a, rfl, hS⟩, rfl⟩, ⟨ns, rfl, by rw [law_true ns]; exact fun _ => rfl⟩, (fun x G' v H' F' hp B rt => by subst hp; exact rt), fun _ _ _ _ _ _ z => z.elim⟩
theorem all_mk {l : PySem.W.OpenLaw} {w : World} {K : PySem.W.Frag} {h : Heap} {mg : Str → Option Value} {fa : Addr} (cx : Nat → Addr) (X : K.In h) (G : h.Ns mainGlobals mg) (hfa : mg "law" = some (.ref fa))
    {t_MAX_ERROR : Tok} {t_MAX_LENGTH : Tok} {t_MAX_MARKS : Tok} {t_MIN_MARKS : Tok} {t_LETTERS : Tok} {t_MAX_LETTERS : Tok} {t_MAX_RULERS : Tok} {t_MAX_END : Tok} {t_MAX_LAYINGS : Tok} {C_Ruler : Addr} {q_Ruler_own_error : Addr} {q_Ruler_own_marks : Addr} {C_Rack : Addr} {q_Rack_held : Addr} {f_law_alike : Addr} {oc1 kV1 dc1 pm1 cd1 ct1 : Value} {od1 an1 : Option Addr} {sl1 : Array (Option Value)} {f_law_begun : Addr} {oc2 kV2 dc2 pm2 cd2 ct2 : Value} {od2 an2 : Option Addr} {sl2 : Array (Option Value)} {f_law_next : Addr} {oc3 kV3 dc3 pm3 cd3 ct3 : Value} {od3 an3 : Option Addr} {sl3 : Array (Option Value)} {f_law_take : Addr} {oc4 kV4 dc4 pm4 cd4 ct4 : Value} {od4 an4 : Option Addr} {sl4 : Array (Option Value)} {f_law_marks : Addr} {oc5 kV5 dc5 pm5 cd5 ct5 : Value} {od5 an5 : Option Addr} {sl5 : Array (Option Value)} {f_is_number : Addr} {oc6 kV6 dc6 pm6 cd6 ct6 : Value} {od6 an6 : Option Addr} {sl6 : Array (Option Value)} {f_Ruler_init : Addr} {oc7 kV7 dc7 pm7 cd7 ct7 : Value} {od7 an7 : Option Addr} {sl7 : Array (Option Value)} {f_law_ruler : Addr} {oc8 kV8 dc8 pm8 cd8 ct8 : Value} {od8 an8 : Option Addr} {sl8 : Array (Option Value)} {f_is_name : Addr} {oc9 kV9 dc9 pm9 cd9 ct9 : Value} {od9 an9 : Option Addr} {sl9 : Array (Option Value)} {f_Rack_init : Addr} {oc10 kV10 dc10 pm10 cd10 ct10 : Value} {od10 an10 : Option Addr} {sl10 : Array (Option Value)} {f_law_rack : Addr} {oc11 kV11 dc11 pm11 cd11 ct11 : Value} {od11 an11 : Option Addr} {sl11 : Array (Option Value)} {f_law_different : Addr} {oc12 kV12 dc12 pm12 cd12 ct12 : Value} {od12 an12 : Option Addr} {sl12 : Array (Option Value)} {f_law_spans : Addr} {oc13 kV13 dc13 pm13 cd13 ct13 : Value} {od13 an13 : Option Addr} {sl13 : Array (Option Value)} {f_Rack_names : Addr} {p_Rack_names : Addr} {r_Rack_names : List Value} {oc14 kV14 dc14 pm14 cd14 ct14 : Value} {od14 an14 : Option Addr} {sl14 : Array (Option Value)} {f_Ruler_marks : Addr} {p_Ruler_marks : Addr} {r_Ruler_marks : List Value} {oc15 kV15 dc15 pm15 cd15 ct15 : Value} {od15 an15 : Option Addr} {sl15 : Array (Option Value)} {f_Rack_getitem : Addr} {oc16 kV16 dc16 pm16 cd16 ct16 : Value} {od16 an16 : Option Addr} {sl16 : Array (Option Value)} {f_law_steps : Addr} {oc17 kV17 dc17 pm17 cd17 ct17 : Value} {od17 an17 : Option Addr} {sl17 : Array (Option Value)} {f_next_places : Addr} {oc18 kV18 dc18 pm18 cd18 ct18 : Value} {od18 an18 : Option Addr} {sl18 : Array (Option Value)} {f_spread_of : Addr} {oc19 kV19 dc19 pm19 cd19 ct19 : Value} {od19 an19 : Option Addr} {sl19 : Array (Option Value)} {f_Ruler_spans : Addr} {p_Ruler_spans : Addr} {r_Ruler_spans : List Value} {oc20 kV20 dc20 pm20 cd20 ct20 : Value} {od20 an20 : Option Addr} {sl20 : Array (Option Value)} {f_Rack_steps : Addr} {p_Rack_steps : Addr} {r_Rack_steps : List Value} {oc21 kV21 dc21 pm21 cd21 ct21 : Value} {od21 an21 : Option Addr} {sl21 : Array (Option Value)} {f_count_tables : Addr} {oc22 kV22 dc22 pm22 cd22 ct22 : Value} {od22 an22 : Option Addr} {sl22 : Array (Option Value)} {f_validate_places : Addr} {oc23 kV23 dc23 pm23 cd23 ct23 : Value} {od23 an23 : Option Addr} {sl23 : Array (Option Value)} {f_validate_rows : Addr} {oc24 kV24 dc24 pm24 cd24 ct24 : Value} {od24 an24 : Option Addr} {sl24 : Array (Option Value)} {f_row_at : Addr} {oc25 kV25 dc25 pm25 cd25 ct25 : Value} {od25 an25 : Option Addr} {sl25 : Array (Option Value)} {f_row_count : Addr} {oc26 kV26 dc26 pm26 cd26 ct26 : Value} {od26 an26 : Option Addr} {sl26 : Array (Option Value)} {f_law : Addr} {oc27 kV27 dc27 pm27 cd27 ct27 : Value} {od27 an27 : Option Addr} {sl27 : Array (Option Value)}
    (z_int : PySem.W.nsIn K mainGlobals "int" = some none)
    (z_len : PySem.W.nsIn K mainGlobals "len" = some none)
    (z_list : PySem.W.nsIn K mainGlobals "list" = some none)
    (z_range : PySem.W.nsIn K mainGlobals "range" = some none)
    (z_sorted : PySem.W.nsIn K mainGlobals "sorted" = some none)
    (z_tuple : PySem.W.nsIn K mainGlobals "tuple" = some none)
    (z_dict : PySem.W.nsIn K mainGlobals "dict" = some none)
    (z_isinstance : PySem.W.nsIn K mainGlobals "isinstance" = some none)
    (z_bool : PySem.W.nsIn K mainGlobals "bool" = some none)
    (z_str : PySem.W.nsIn K mainGlobals "str" = some none)
    (z_enumerate : PySem.W.nsIn K mainGlobals "enumerate" = some none)
    (z_reversed : PySem.W.nsIn K mainGlobals "reversed" = some none)
    (z_abs : PySem.W.nsIn K mainGlobals "abs" = some none)
    (z_min : PySem.W.nsIn K mainGlobals "min" = some none)
    (z_max : PySem.W.nsIn K mainGlobals "max" = some none)
    (z_sum : PySem.W.nsIn K mainGlobals "sum" = some none)
    (z_zip : PySem.W.nsIn K mainGlobals "zip" = some none)
    (z_set : PySem.W.nsIn K mainGlobals "set" = some none)
    (z_all : PySem.W.nsIn K mainGlobals "all" = some none)
    (z_divmod : PySem.W.nsIn K mainGlobals "divmod" = some none)
    (g_MAX_ERROR : PySem.W.nsIn K mainGlobals "MAX_ERROR" = some (some (.int 9 t_MAX_ERROR)))
    (g_MAX_LENGTH : PySem.W.nsIn K mainGlobals "MAX_LENGTH" = some (some (.int 300 t_MAX_LENGTH)))
    (g_MAX_MARKS : PySem.W.nsIn K mainGlobals "MAX_MARKS" = some (some (.int 12 t_MAX_MARKS)))
    (g_MIN_MARKS : PySem.W.nsIn K mainGlobals "MIN_MARKS" = some (some (.int 2 t_MIN_MARKS)))
    (g_LETTERS : PySem.W.nsIn K mainGlobals "LETTERS" = some (some (.str "abcdefghijklmnopqrstuvwxyz" t_LETTERS)))
    (g_MAX_LETTERS : PySem.W.nsIn K mainGlobals "MAX_LETTERS" = some (some (.int 8 t_MAX_LETTERS)))
    (g_MAX_RULERS : PySem.W.nsIn K mainGlobals "MAX_RULERS" = some (some (.int 6 t_MAX_RULERS)))
    (g_MAX_END : PySem.W.nsIn K mainGlobals "MAX_END" = some (some (.int 200 t_MAX_END)))
    (g_MAX_LAYINGS : PySem.W.nsIn K mainGlobals "MAX_LAYINGS" = some (some (.int 60 t_MAX_LAYINGS)))
    (g_Ruler : PySem.W.nsIn K mainGlobals "Ruler" = some (some (.ref C_Ruler)))
    (pg_Ruler : PySem.W.plainGet K C_Ruler Str.empty = true)
    (ic_Ruler : PySem.W.isClsIn K C_Ruler = true)
    (po_Ruler : PySem.W.plainOver K C_Ruler = true)
    (sa_Ruler : PySem.W.findIn K (.ref C_Ruler) "__setattr__" = some (some (.builtin "object.__setattr__")))
    (ca_Ruler : PySem.W.findIn K (.ref C_Ruler) "__class__" = some (some (.builtin "object.__class__")))
    (cn_Ruler : PySem.W.specialIn K (.builtin "object.__class__") "__get__" = some (some (.builtin "getset_descriptor.__get__")))
    (ct_Ruler : PySem.W.takesIn K (.builtin "object.__class__") = some true)
    (cm_Ruler : PySem.W.mroIn K C_Ruler (.type "object") = some true)
    (sa_Ruler_own_error : PySem.W.findIn K (.ref C_Ruler) "own_error" = some (some (.ref q_Ruler_own_error)))
    (sg_Ruler_own_error : PySem.W.specialIn K (.ref q_Ruler_own_error) "__get__" = some (some (.builtin "member_descriptor.__get__")))
    (sk_Ruler_own_error : PySem.W.takesIn K (.ref q_Ruler_own_error) = some true)
    (sy_Ruler_own_error : PySem.W.typeIn K (.ref q_Ruler_own_error) = some (.type "member_descriptor"))
    (sx_Ruler_own_error : PySem.W.slotIn K q_Ruler_own_error C_Ruler = some 0)
    (sa_Ruler_own_marks : PySem.W.findIn K (.ref C_Ruler) "own_marks" = some (some (.ref q_Ruler_own_marks)))
    (sg_Ruler_own_marks : PySem.W.specialIn K (.ref q_Ruler_own_marks) "__get__" = some (some (.builtin "member_descriptor.__get__")))
    (sk_Ruler_own_marks : PySem.W.takesIn K (.ref q_Ruler_own_marks) = some true)
    (sy_Ruler_own_marks : PySem.W.typeIn K (.ref q_Ruler_own_marks) = some (.type "member_descriptor"))
    (sx_Ruler_own_marks : PySem.W.slotIn K q_Ruler_own_marks C_Ruler = some 1)
    (nf_Ruler : PySem.W.notFirst K C_Ruler (.ref C_Ruler) = true)
    (g_Rack : PySem.W.nsIn K mainGlobals "Rack" = some (some (.ref C_Rack)))
    (pg_Rack : PySem.W.plainGet K C_Rack Str.empty = true)
    (ic_Rack : PySem.W.isClsIn K C_Rack = true)
    (po_Rack : PySem.W.plainOver K C_Rack = true)
    (sa_Rack : PySem.W.findIn K (.ref C_Rack) "__setattr__" = some (some (.builtin "object.__setattr__")))
    (ca_Rack : PySem.W.findIn K (.ref C_Rack) "__class__" = some (some (.builtin "object.__class__")))
    (cn_Rack : PySem.W.specialIn K (.builtin "object.__class__") "__get__" = some (some (.builtin "getset_descriptor.__get__")))
    (ct_Rack : PySem.W.takesIn K (.builtin "object.__class__") = some true)
    (cm_Rack : PySem.W.mroIn K C_Rack (.type "object") = some true)
    (sa_Rack_held : PySem.W.findIn K (.ref C_Rack) "held" = some (some (.ref q_Rack_held)))
    (sg_Rack_held : PySem.W.specialIn K (.ref q_Rack_held) "__get__" = some (some (.builtin "member_descriptor.__get__")))
    (sk_Rack_held : PySem.W.takesIn K (.ref q_Rack_held) = some true)
    (sy_Rack_held : PySem.W.typeIn K (.ref q_Rack_held) = some (.type "member_descriptor"))
    (sx_Rack_held : PySem.W.slotIn K q_Rack_held C_Rack = some 0)
    (nf_Rack : PySem.W.notFirst K C_Rack (.ref C_Rack) = true)
    (a_law_alike : PySem.W.nsIn K mainGlobals "_law_alike" = some (some (.ref f_law_alike)))
    (l_law_alike : K.lookup f_law_alike = some ⟨oc1, od1, .func (PySem.W.fnOf "_law_alike" "_law_alike" (defArgs s_law_alike) (defBody s_law_alike) (defScope s_law_alike) .none kV1 dc1 pm1 an1 cd1 ct1), sl1⟩)
    (c_law_alike : PySem.W.codeIn K cd1 "_law_alike" = true)
    (kp_law_alike : PySem.W.keepIn K (.ref f_law_alike) = true)
    (a_law_begun : PySem.W.nsIn K mainGlobals "_law_begun" = some (some (.ref f_law_begun)))
    (l_law_begun : K.lookup f_law_begun = some ⟨oc2, od2, .func (PySem.W.fnOf "_law_begun" "_law_begun" (defArgs s_law_begun) (defBody s_law_begun) (defScope s_law_begun) .none kV2 dc2 pm2 an2 cd2 ct2), sl2⟩)
    (c_law_begun : PySem.W.codeIn K cd2 "_law_begun" = true)
    (kp_law_begun : PySem.W.keepIn K (.ref f_law_begun) = true)
    (a_law_next : PySem.W.nsIn K mainGlobals "_law_next" = some (some (.ref f_law_next)))
    (l_law_next : K.lookup f_law_next = some ⟨oc3, od3, .func (PySem.W.fnOf "_law_next" "_law_next" (defArgs s_law_next) (defBody s_law_next) (defScope s_law_next) .none kV3 dc3 pm3 an3 cd3 ct3), sl3⟩)
    (c_law_next : PySem.W.codeIn K cd3 "_law_next" = true)
    (kp_law_next : PySem.W.keepIn K (.ref f_law_next) = true)
    (a_law_take : PySem.W.nsIn K mainGlobals "_law_take" = some (some (.ref f_law_take)))
    (l_law_take : K.lookup f_law_take = some ⟨oc4, od4, .func (PySem.W.fnOf "_law_take" "_law_take" (defArgs s_law_take) (defBody s_law_take) (defScope s_law_take) .none kV4 dc4 pm4 an4 cd4 ct4), sl4⟩)
    (c_law_take : PySem.W.codeIn K cd4 "_law_take" = true)
    (kp_law_take : PySem.W.keepIn K (.ref f_law_take) = true)
    (a_law_marks : PySem.W.nsIn K mainGlobals "_law_marks" = some (some (.ref f_law_marks)))
    (l_law_marks : K.lookup f_law_marks = some ⟨oc5, od5, .func (PySem.W.fnOf "_law_marks" "_law_marks" (defArgs s_law_marks) (defBody s_law_marks) (defScope s_law_marks) .none kV5 dc5 pm5 an5 cd5 ct5), sl5⟩)
    (c_law_marks : PySem.W.codeIn K cd5 "_law_marks" = true)
    (kp_law_marks : PySem.W.keepIn K (.ref f_law_marks) = true)
    (a_is_number : PySem.W.nsIn K mainGlobals "is_number" = some (some (.ref f_is_number)))
    (l_is_number : K.lookup f_is_number = some ⟨oc6, od6, .func (PySem.W.fnOf "is_number" "is_number" (defArgs s_is_number) (defBody s_is_number) (defScope s_is_number) .none kV6 dc6 pm6 an6 cd6 ct6), sl6⟩)
    (c_is_number : PySem.W.codeIn K cd6 "is_number" = true)
    (kp_is_number : PySem.W.keepIn K (.ref f_is_number) = true)
    (at_Ruler_init : PySem.W.findIn K (.ref C_Ruler) "__init__" = some (some (.ref f_Ruler_init)))
    (fn_Ruler_init : PySem.W.isFn K (.ref f_Ruler_init) = true)
    (l_Ruler_init : K.lookup f_Ruler_init = some ⟨oc7, od7, .func (PySem.W.fnOf "__init__" "Ruler.__init__" (defArgs s_Ruler_init) (defBody s_Ruler_init) (defScope s_Ruler_init) .none kV7 dc7 pm7 an7 cd7 ct7), sl7⟩)
    (c_Ruler_init : PySem.W.codeIn K cd7 "Ruler.__init__" = true)
    (kp_Ruler_init : PySem.W.keepIn K (.ref f_Ruler_init) = true)
    (mki_Ruler : PySem.W.makesIn K C_Ruler = true)
    (kc_Ruler : PySem.W.keepIn K (.ref C_Ruler) = true)
    (a_law_ruler : PySem.W.nsIn K mainGlobals "_law_ruler" = some (some (.ref f_law_ruler)))
    (l_law_ruler : K.lookup f_law_ruler = some ⟨oc8, od8, .func (PySem.W.fnOf "_law_ruler" "_law_ruler" (defArgs s_law_ruler) (defBody s_law_ruler) (defScope s_law_ruler) .none kV8 dc8 pm8 an8 cd8 ct8), sl8⟩)
    (c_law_ruler : PySem.W.codeIn K cd8 "_law_ruler" = true)
    (kp_law_ruler : PySem.W.keepIn K (.ref f_law_ruler) = true)
    (a_is_name : PySem.W.nsIn K mainGlobals "is_name" = some (some (.ref f_is_name)))
    (l_is_name : K.lookup f_is_name = some ⟨oc9, od9, .func (PySem.W.fnOf "is_name" "is_name" (defArgs s_is_name) (defBody s_is_name) (defScope s_is_name) .none kV9 dc9 pm9 an9 cd9 ct9), sl9⟩)
    (c_is_name : PySem.W.codeIn K cd9 "is_name" = true)
    (kp_is_name : PySem.W.keepIn K (.ref f_is_name) = true)
    (at_Rack_init : PySem.W.findIn K (.ref C_Rack) "__init__" = some (some (.ref f_Rack_init)))
    (fn_Rack_init : PySem.W.isFn K (.ref f_Rack_init) = true)
    (l_Rack_init : K.lookup f_Rack_init = some ⟨oc10, od10, .func (PySem.W.fnOf "__init__" "Rack.__init__" (defArgs s_Rack_init) (defBody s_Rack_init) (defScope s_Rack_init) .none kV10 dc10 pm10 an10 cd10 ct10), sl10⟩)
    (c_Rack_init : PySem.W.codeIn K cd10 "Rack.__init__" = true)
    (kp_Rack_init : PySem.W.keepIn K (.ref f_Rack_init) = true)
    (mki_Rack : PySem.W.makesIn K C_Rack = true)
    (kc_Rack : PySem.W.keepIn K (.ref C_Rack) = true)
    (a_law_rack : PySem.W.nsIn K mainGlobals "_law_rack" = some (some (.ref f_law_rack)))
    (l_law_rack : K.lookup f_law_rack = some ⟨oc11, od11, .func (PySem.W.fnOf "_law_rack" "_law_rack" (defArgs s_law_rack) (defBody s_law_rack) (defScope s_law_rack) .none kV11 dc11 pm11 an11 cd11 ct11), sl11⟩)
    (c_law_rack : PySem.W.codeIn K cd11 "_law_rack" = true)
    (kp_law_rack : PySem.W.keepIn K (.ref f_law_rack) = true)
    (a_law_different : PySem.W.nsIn K mainGlobals "_law_different" = some (some (.ref f_law_different)))
    (l_law_different : K.lookup f_law_different = some ⟨oc12, od12, .func (PySem.W.fnOf "_law_different" "_law_different" (defArgs s_law_different) (defBody s_law_different) (defScope s_law_different) .none kV12 dc12 pm12 an12 cd12 ct12), sl12⟩)
    (c_law_different : PySem.W.codeIn K cd12 "_law_different" = true)
    (kp_law_different : PySem.W.keepIn K (.ref f_law_different) = true)
    (a_law_spans : PySem.W.nsIn K mainGlobals "_law_spans" = some (some (.ref f_law_spans)))
    (l_law_spans : K.lookup f_law_spans = some ⟨oc13, od13, .func (PySem.W.fnOf "_law_spans" "_law_spans" (defArgs s_law_spans) (defBody s_law_spans) (defScope s_law_spans) .none kV13 dc13 pm13 an13 cd13 ct13), sl13⟩)
    (c_law_spans : PySem.W.codeIn K cd13 "_law_spans" = true)
    (kp_law_spans : PySem.W.keepIn K (.ref f_law_spans) = true)
    (at_Rack_names : PySem.W.findIn K (.ref C_Rack) "names" = some (some (.ref p_Rack_names)))
    (sp_Rack_names : PySem.W.specialIn K (.ref p_Rack_names) "__get__" = some (some (.builtin "property.__get__")))
    (tk_Rack_names : PySem.W.takesIn K (.ref p_Rack_names) = some true)
    (rc_Rack_names : PySem.W.recIn K p_Rack_names "property" = some (.ref f_Rack_names :: r_Rack_names))
    (l_Rack_names : K.lookup f_Rack_names = some ⟨oc14, od14, .func (PySem.W.fnOf "names" "Rack.names" (defArgs s_Rack_names) (defBody s_Rack_names) (defScope s_Rack_names) .none kV14 dc14 pm14 an14 cd14 ct14), sl14⟩)
    (c_Rack_names : PySem.W.codeIn K cd14 "Rack.names" = true)
    (kp_Rack_names : PySem.W.keepIn K (.ref f_Rack_names) = true)
    (at_Ruler_marks : PySem.W.findIn K (.ref C_Ruler) "marks" = some (some (.ref p_Ruler_marks)))
    (sp_Ruler_marks : PySem.W.specialIn K (.ref p_Ruler_marks) "__get__" = some (some (.builtin "property.__get__")))
    (tk_Ruler_marks : PySem.W.takesIn K (.ref p_Ruler_marks) = some true)
    (rc_Ruler_marks : PySem.W.recIn K p_Ruler_marks "property" = some (.ref f_Ruler_marks :: r_Ruler_marks))
    (l_Ruler_marks : K.lookup f_Ruler_marks = some ⟨oc15, od15, .func (PySem.W.fnOf "marks" "Ruler.marks" (defArgs s_Ruler_marks) (defBody s_Ruler_marks) (defScope s_Ruler_marks) .none kV15 dc15 pm15 an15 cd15 ct15), sl15⟩)
    (c_Ruler_marks : PySem.W.codeIn K cd15 "Ruler.marks" = true)
    (kp_Ruler_marks : PySem.W.keepIn K (.ref f_Ruler_marks) = true)
    (at_Rack_getitem : PySem.W.findIn K (.ref C_Rack) "__getitem__" = some (some (.ref f_Rack_getitem)))
    (fn_Rack_getitem : PySem.W.isFn K (.ref f_Rack_getitem) = true)
    (l_Rack_getitem : K.lookup f_Rack_getitem = some ⟨oc16, od16, .func (PySem.W.fnOf "__getitem__" "Rack.__getitem__" (defArgs s_Rack_getitem) (defBody s_Rack_getitem) (defScope s_Rack_getitem) .none kV16 dc16 pm16 an16 cd16 ct16), sl16⟩)
    (c_Rack_getitem : PySem.W.codeIn K cd16 "Rack.__getitem__" = true)
    (kp_Rack_getitem : PySem.W.keepIn K (.ref f_Rack_getitem) = true)
    (a_law_steps : PySem.W.nsIn K mainGlobals "_law_steps" = some (some (.ref f_law_steps)))
    (l_law_steps : K.lookup f_law_steps = some ⟨oc17, od17, .func (PySem.W.fnOf "_law_steps" "_law_steps" (defArgs s_law_steps) (defBody s_law_steps) (defScope s_law_steps) .none kV17 dc17 pm17 an17 cd17 ct17), sl17⟩)
    (c_law_steps : PySem.W.codeIn K cd17 "_law_steps" = true)
    (kp_law_steps : PySem.W.keepIn K (.ref f_law_steps) = true)
    (a_next_places : PySem.W.nsIn K mainGlobals "next_places" = some (some (.ref f_next_places)))
    (l_next_places : K.lookup f_next_places = some ⟨oc18, od18, .func (PySem.W.fnOf "next_places" "next_places" (defArgs s_next_places) (defBody s_next_places) (defScope s_next_places) .none kV18 dc18 pm18 an18 cd18 ct18), sl18⟩)
    (c_next_places : PySem.W.codeIn K cd18 "next_places" = true)
    (kp_next_places : PySem.W.keepIn K (.ref f_next_places) = true)
    (a_spread_of : PySem.W.nsIn K mainGlobals "spread_of" = some (some (.ref f_spread_of)))
    (l_spread_of : K.lookup f_spread_of = some ⟨oc19, od19, .func (PySem.W.fnOf "spread_of" "spread_of" (defArgs s_spread_of) (defBody s_spread_of) (defScope s_spread_of) .none kV19 dc19 pm19 an19 cd19 ct19), sl19⟩)
    (c_spread_of : PySem.W.codeIn K cd19 "spread_of" = true)
    (kp_spread_of : PySem.W.keepIn K (.ref f_spread_of) = true)
    (at_Ruler_spans : PySem.W.findIn K (.ref C_Ruler) "spans" = some (some (.ref p_Ruler_spans)))
    (sp_Ruler_spans : PySem.W.specialIn K (.ref p_Ruler_spans) "__get__" = some (some (.builtin "property.__get__")))
    (tk_Ruler_spans : PySem.W.takesIn K (.ref p_Ruler_spans) = some true)
    (rc_Ruler_spans : PySem.W.recIn K p_Ruler_spans "property" = some (.ref f_Ruler_spans :: r_Ruler_spans))
    (l_Ruler_spans : K.lookup f_Ruler_spans = some ⟨oc20, od20, .func (PySem.W.fnOf "spans" "Ruler.spans" (defArgs s_Ruler_spans) (defBody s_Ruler_spans) (defScope s_Ruler_spans) .none kV20 dc20 pm20 an20 cd20 ct20), sl20⟩)
    (c_Ruler_spans : PySem.W.codeIn K cd20 "Ruler.spans" = true)
    (kp_Ruler_spans : PySem.W.keepIn K (.ref f_Ruler_spans) = true)
    (at_Rack_steps : PySem.W.findIn K (.ref C_Rack) "steps" = some (some (.ref p_Rack_steps)))
    (sp_Rack_steps : PySem.W.specialIn K (.ref p_Rack_steps) "__get__" = some (some (.builtin "property.__get__")))
    (tk_Rack_steps : PySem.W.takesIn K (.ref p_Rack_steps) = some true)
    (rc_Rack_steps : PySem.W.recIn K p_Rack_steps "property" = some (.ref f_Rack_steps :: r_Rack_steps))
    (l_Rack_steps : K.lookup f_Rack_steps = some ⟨oc21, od21, .func (PySem.W.fnOf "steps" "Rack.steps" (defArgs s_Rack_steps) (defBody s_Rack_steps) (defScope s_Rack_steps) .none kV21 dc21 pm21 an21 cd21 ct21), sl21⟩)
    (c_Rack_steps : PySem.W.codeIn K cd21 "Rack.steps" = true)
    (kp_Rack_steps : PySem.W.keepIn K (.ref f_Rack_steps) = true)
    (a_count_tables : PySem.W.nsIn K mainGlobals "count_tables" = some (some (.ref f_count_tables)))
    (l_count_tables : K.lookup f_count_tables = some ⟨oc22, od22, .func (PySem.W.fnOf "count_tables" "count_tables" (defArgs s_count_tables) (defBody s_count_tables) (defScope s_count_tables) .none kV22 dc22 pm22 an22 cd22 ct22), sl22⟩)
    (c_count_tables : PySem.W.codeIn K cd22 "count_tables" = true)
    (kp_count_tables : PySem.W.keepIn K (.ref f_count_tables) = true)
    (a_validate_places : PySem.W.nsIn K mainGlobals "validate_places" = some (some (.ref f_validate_places)))
    (l_validate_places : K.lookup f_validate_places = some ⟨oc23, od23, .func (PySem.W.fnOf "validate_places" "validate_places" (defArgs s_validate_places) (defBody s_validate_places) (defScope s_validate_places) .none kV23 dc23 pm23 an23 cd23 ct23), sl23⟩)
    (c_validate_places : PySem.W.codeIn K cd23 "validate_places" = true)
    (kp_validate_places : PySem.W.keepIn K (.ref f_validate_places) = true)
    (a_validate_rows : PySem.W.nsIn K mainGlobals "validate_rows" = some (some (.ref f_validate_rows)))
    (l_validate_rows : K.lookup f_validate_rows = some ⟨oc24, od24, .func (PySem.W.fnOf "validate_rows" "validate_rows" (defArgs s_validate_rows) (defBody s_validate_rows) (defScope s_validate_rows) .none kV24 dc24 pm24 an24 cd24 ct24), sl24⟩)
    (c_validate_rows : PySem.W.codeIn K cd24 "validate_rows" = true)
    (kp_validate_rows : PySem.W.keepIn K (.ref f_validate_rows) = true)
    (a_row_at : PySem.W.nsIn K mainGlobals "row_at" = some (some (.ref f_row_at)))
    (l_row_at : K.lookup f_row_at = some ⟨oc25, od25, .func (PySem.W.fnOf "row_at" "row_at" (defArgs s_row_at) (defBody s_row_at) (defScope s_row_at) .none kV25 dc25 pm25 an25 cd25 ct25), sl25⟩)
    (c_row_at : PySem.W.codeIn K cd25 "row_at" = true)
    (kp_row_at : PySem.W.keepIn K (.ref f_row_at) = true)
    (a_row_count : PySem.W.nsIn K mainGlobals "row_count" = some (some (.ref f_row_count)))
    (l_row_count : K.lookup f_row_count = some ⟨oc26, od26, .func (PySem.W.fnOf "row_count" "row_count" (defArgs s_row_count) (defBody s_row_count) (defScope s_row_count) .none kV26 dc26 pm26 an26 cd26 ct26), sl26⟩)
    (c_row_count : PySem.W.codeIn K cd26 "row_count" = true)
    (kp_row_count : PySem.W.keepIn K (.ref f_row_count) = true)
    (a_law : PySem.W.nsIn K mainGlobals "law" = some (some (.ref f_law)))
    (l_law : K.lookup f_law = some ⟨oc27, od27, .func (PySem.W.fnOf "law" "law" (defArgs s_law) (defBody s_law) (defScope s_law) .none kV27 dc27 pm27 an27 cd27 ct27), sl27⟩)
    (c_law : PySem.W.codeIn K cd27 "law" = true)
    (kp_law : PySem.W.keepIn K (.ref f_law) = true) :
    ∃ fd : FuncData, (∀ (s : Shared) (v : Value), BindsTo s fd ⟨[v], []⟩ [("_law_script", v)]) ∧ ∀ base : Heap, K.In base → base.Ns mainGlobals mg → FnOk l.prog w K mg base (L2.CX l.prog w) 15 fa fd ["_law_script"] (spD K (FLaw m_law)) := by
  have efa := hfa.symm.trans (PySem.W.mg_of X G a_law)
  cases efa
  have mg_MAX_ERROR := PySem.W.mg_of X G g_MAX_ERROR
  have mg_MAX_LENGTH := PySem.W.mg_of X G g_MAX_LENGTH
  have mg_MAX_MARKS := PySem.W.mg_of X G g_MAX_MARKS
  have mg_MIN_MARKS := PySem.W.mg_of X G g_MIN_MARKS
  have mg_LETTERS := PySem.W.mg_of X G g_LETTERS
  have mg_MAX_LETTERS := PySem.W.mg_of X G g_MAX_LETTERS
  have mg_MAX_RULERS := PySem.W.mg_of X G g_MAX_RULERS
  have mg_MAX_END := PySem.W.mg_of X G g_MAX_END
  have mg_MAX_LAYINGS := PySem.W.mg_of X G g_MAX_LAYINGS
  have mg_Ruler := PySem.W.mg_of X G g_Ruler
  have cls_Ruler : SlX.SCls K C_Ruler := ⟨pg_Ruler, ic_Ruler, po_Ruler, sa_Ruler⟩
  have isi_Ruler : SlX.SIsi K C_Ruler := ⟨ca_Ruler, cn_Ruler, ct_Ruler, cm_Ruler⟩
  have slot_Ruler_own_error : SlX.Slot1 K C_Ruler "own_error" q_Ruler_own_error 0 := ⟨sa_Ruler_own_error, sg_Ruler_own_error, sk_Ruler_own_error, sy_Ruler_own_error, sx_Ruler_own_error, by decide⟩
  have slot_Ruler_own_marks : SlX.Slot1 K C_Ruler "own_marks" q_Ruler_own_marks 1 := ⟨sa_Ruler_own_marks, sg_Ruler_own_marks, sk_Ruler_own_marks, sy_Ruler_own_marks, sx_Ruler_own_marks, by decide⟩
  have cl_Ruler : Cl_Ruler K C_Ruler := ⟨cls_Ruler, isi_Ruler, ⟨_, slot_Ruler_own_error⟩, ⟨_, slot_Ruler_own_marks⟩, kit_same (by simp), nf_Ruler⟩
  have mg_Rack := PySem.W.mg_of X G g_Rack
  have cls_Rack : SlX.SCls K C_Rack := ⟨pg_Rack, ic_Rack, po_Rack, sa_Rack⟩
  have isi_Rack : SlX.SIsi K C_Rack := ⟨ca_Rack, cn_Rack, ct_Rack, cm_Rack⟩
  have slot_Rack_held : SlX.Slot1 K C_Rack "held" q_Rack_held 0 := ⟨sa_Rack_held, sg_Rack_held, sk_Rack_held, sy_Rack_held, sx_Rack_held, by decide⟩
  have cl_Rack : Cl_Rack K C_Rack := ⟨cls_Rack, isi_Rack, ⟨_, slot_Rack_held⟩, kit_same (by simp), nf_Rack⟩
  have B : Bn mg := ⟨PySem.W.mg_none_of X G z_int, PySem.W.mg_none_of X G z_len, PySem.W.mg_none_of X G z_list, PySem.W.mg_none_of X G z_range, PySem.W.mg_none_of X G z_sorted, PySem.W.mg_none_of X G z_tuple, PySem.W.mg_none_of X G z_dict, PySem.W.mg_none_of X G z_isinstance, PySem.W.mg_none_of X G z_bool, PySem.W.mg_none_of X G z_str, PySem.W.mg_none_of X G z_enumerate, PySem.W.mg_none_of X G z_reversed, PySem.W.mg_none_of X G z_abs, PySem.W.mg_none_of X G z_min, PySem.W.mg_none_of X G z_max, PySem.W.mg_none_of X G z_sum, PySem.W.mg_none_of X G z_zip, PySem.W.mg_none_of X G z_set, PySem.W.mg_none_of X G z_all, PySem.W.mg_none_of X G z_divmod⟩
  have F_law_alike := fun_mk (st := s_law_alike) l_law_alike c_law_alike kp_law_alike
  have b_law_alike := F_law_alike.binds (ps := ["_law_found", "_law_due"]) fun _ _ _ _ _ _ us hl => match us, hl with | [_, _], _ => rfl
  have mg_law_alike := PySem.W.mg_of X G a_law_alike
  have F_law_begun := fun_mk (st := s_law_begun) l_law_begun c_law_begun kp_law_begun
  have b_law_begun := F_law_begun.binds (ps := ["_law_script"]) fun _ _ _ _ _ _ us hl => match us, hl with | [_], _ => rfl
  have mg_law_begun := PySem.W.mg_of X G a_law_begun
  have F_law_next := fun_mk (st := s_law_next) l_law_next c_law_next kp_law_next
  have b_law_next := F_law_next.binds (ps := ["_law_steps_here", "_law_end", "_law_place"]) fun _ _ _ _ _ _ us hl => match us, hl with | [_, _, _], _ => rfl
  have mg_law_next := PySem.W.mg_of X G a_law_next
  have F_law_take := fun_mk (st := s_law_take) l_law_take c_law_take kp_law_take
  have b_law_take := F_law_take.binds (ps := ["_law_box", "_law_many"]) fun _ _ _ _ _ _ us hl => match us, hl with | [_, _], _ => rfl
  have mg_law_take := PySem.W.mg_of X G a_law_take
  have F_law_marks := fun_mk (st := s_law_marks) l_law_marks c_law_marks kp_law_marks
  have b_law_marks := F_law_marks.binds (ps := ["_law_box", "_law_most", "_law_length"]) fun _ _ _ _ _ _ us hl => match us, hl with | [_, _, _], _ => rfl
  have mg_law_marks := PySem.W.mg_of X G a_law_marks
  have F_is_number := fun_mk (st := s_is_number) l_is_number c_is_number kp_is_number
  have b_is_number := F_is_number.binds (ps := ["value", "lowest", "highest"]) fun _ _ _ _ _ _ us hl => match us, hl with | [_, _, _], _ => rfl
  have mg_is_number := PySem.W.mg_of X G a_is_number
  have F_Ruler_init := fun_mk (st := s_Ruler_init) l_Ruler_init c_Ruler_init kp_Ruler_init
  have b_Ruler_init := F_Ruler_init.binds (ps := ["self", "marks", "error"]) fun _ _ _ _ _ _ us hl => match us, hl with | [_, _, _], _ => rfl
  have F_law_ruler := fun_mk (st := s_law_ruler) l_law_ruler c_law_ruler kp_law_ruler
  have b_law_ruler := F_law_ruler.binds (ps := ["_law_box", "_law_most", "_law_length"]) fun _ _ _ _ _ _ us hl => match us, hl with | [_, _, _], _ => rfl
  have mg_law_ruler := PySem.W.mg_of X G a_law_ruler
  have F_is_name := fun_mk (st := s_is_name) l_is_name c_is_name kp_is_name
  have b_is_name := F_is_name.binds (ps := ["name"]) fun _ _ _ _ _ _ us hl => match us, hl with | [_], _ => rfl
  have mg_is_name := PySem.W.mg_of X G a_is_name
  have F_Rack_init := fun_mk (st := s_Rack_init) l_Rack_init c_Rack_init kp_Rack_init
  have b_Rack_init := F_Rack_init.binds (ps := ["self", "rulers"]) fun _ _ _ _ _ _ us hl => match us, hl with | [_, _], _ => rfl
  have F_law_rack := fun_mk (st := s_law_rack) l_law_rack c_law_rack kp_law_rack
  have b_law_rack := F_law_rack.binds (ps := ["_law_box", "_law_many", "_law_most", "_law_length"]) fun _ _ _ _ _ _ us hl => match us, hl with | [_, _, _, _], _ => rfl
  have mg_law_rack := PySem.W.mg_of X G a_law_rack
  have F_law_different := fun_mk (st := s_law_different) l_law_different c_law_different kp_law_different
  have b_law_different := F_law_different.binds (ps := ["_law_values"]) fun _ _ _ _ _ _ us hl => match us, hl with | [_], _ => rfl
  have mg_law_different := PySem.W.mg_of X G a_law_different
  have F_law_spans := fun_mk (st := s_law_spans) l_law_spans c_law_spans kp_law_spans
  have b_law_spans := F_law_spans.binds (ps := ["_law_marks_here"]) fun _ _ _ _ _ _ us hl => match us, hl with | [_], _ => rfl
  have mg_law_spans := PySem.W.mg_of X G a_law_spans
  have F_Rack_names := fun_mk (st := s_Rack_names) l_Rack_names c_Rack_names kp_Rack_names
  have b_Rack_names := F_Rack_names.binds (ps := ["self"]) fun _ _ _ _ _ _ us hl => match us, hl with | [_], _ => rfl
  have F_Ruler_marks := fun_mk (st := s_Ruler_marks) l_Ruler_marks c_Ruler_marks kp_Ruler_marks
  have b_Ruler_marks := F_Ruler_marks.binds (ps := ["self"]) fun _ _ _ _ _ _ us hl => match us, hl with | [_], _ => rfl
  have F_Rack_getitem := fun_mk (st := s_Rack_getitem) l_Rack_getitem c_Rack_getitem kp_Rack_getitem
  have b_Rack_getitem := F_Rack_getitem.binds (ps := ["self", "name"]) fun _ _ _ _ _ _ us hl => match us, hl with | [_, _], _ => rfl
  have F_law_steps := fun_mk (st := s_law_steps) l_law_steps c_law_steps kp_law_steps
  have b_law_steps := F_law_steps.binds (ps := ["_law_rack_here"]) fun _ _ _ _ _ _ us hl => match us, hl with | [_], _ => rfl
  have mg_law_steps := PySem.W.mg_of X G a_law_steps
  have F_next_places := fun_mk (st := s_next_places) l_next_places c_next_places kp_next_places
  have b_next_places := F_next_places.binds (ps := ["steps", "end", "place"]) fun _ _ _ _ _ _ us hl => match us, hl with | [_, _, _], _ => rfl
  have mg_next_places := PySem.W.mg_of X G a_next_places
  have F_spread_of := fun_mk (st := s_spread_of) l_spread_of c_spread_of kp_spread_of
  have b_spread_of := F_spread_of.binds (ps := ["marks"]) fun _ _ _ _ _ _ us hl => match us, hl with | [_], _ => rfl
  have mg_spread_of := PySem.W.mg_of X G a_spread_of
  have F_Ruler_spans := fun_mk (st := s_Ruler_spans) l_Ruler_spans c_Ruler_spans kp_Ruler_spans
  have b_Ruler_spans := F_Ruler_spans.binds (ps := ["self"]) fun _ _ _ _ _ _ us hl => match us, hl with | [_], _ => rfl
  have F_Rack_steps := fun_mk (st := s_Rack_steps) l_Rack_steps c_Rack_steps kp_Rack_steps
  have b_Rack_steps := F_Rack_steps.binds (ps := ["self"]) fun _ _ _ _ _ _ us hl => match us, hl with | [_], _ => rfl
  have F_count_tables := fun_mk (st := s_count_tables) l_count_tables c_count_tables kp_count_tables
  have b_count_tables := F_count_tables.binds (ps := ["rack", "end", "goal", "number"]) fun _ _ _ _ _ _ us hl => match us, hl with | [_, _, _, _], _ => rfl
  have mg_count_tables := PySem.W.mg_of X G a_count_tables
  have F_validate_places := fun_mk (st := s_validate_places) l_validate_places c_validate_places kp_validate_places
  have b_validate_places := F_validate_places.binds (ps := ["end", "places"]) fun _ _ _ _ _ _ us hl => match us, hl with | [_, _], _ => rfl
  have mg_validate_places := PySem.W.mg_of X G a_validate_places
  have F_validate_rows := fun_mk (st := s_validate_rows) l_validate_rows c_validate_rows kp_validate_rows
  have b_validate_rows := F_validate_rows.binds (ps := ["end", "begin", "goal", "number"]) fun _ _ _ _ _ _ us hl => match us, hl with | [_, _, _, _], _ => rfl
  have mg_validate_rows := PySem.W.mg_of X G a_validate_rows
  have F_row_at := fun_mk (st := s_row_at) l_row_at c_row_at kp_row_at
  have b_row_at := F_row_at.binds (ps := ["rack", "end", "begin", "goal", "number", "index"]) fun _ _ _ _ _ _ us hl => match us, hl with | [_, _, _, _, _, _], _ => rfl
  have mg_row_at := PySem.W.mg_of X G a_row_at
  have F_row_count := fun_mk (st := s_row_count) l_row_count c_row_count kp_row_count
  have b_row_count := F_row_count.binds (ps := ["rack", "end", "begin", "goal", "number"]) fun _ _ _ _ _ _ us hl => match us, hl with | [_, _, _, _, _], _ => rfl
  have mg_row_count := PySem.W.mg_of X G a_row_count
  have F_law := fun_mk (st := s_law) l_law c_law kp_law
  have b_law := F_law.binds (ps := ["_law_script"]) fun _ _ _ _ _ _ us hl => match us, hl with | [_], _ => rfl
  refine ⟨PySem.W.fnOf "law" "law" (defArgs s_law) (defBody s_law) (defScope s_law) .none kV27 dc27 pm27 an27 cd27 ct27, fun s v => .of_eq rfl, fun base _ _ => ?_⟩
  have c_law_alike_0 : Cal l.prog w K mg base "_law_alike" 3 ["_law_found", "_law_due"] (alikeF 0) := ⟨f_law_alike, _, ok_law_alike (n := 0) (k := 2) F_law_alike B (fun h => absurd h (by decide)), mg_law_alike, kp_law_alike, b_law_alike⟩
  have c_law_alike_1 : Cal l.prog w K mg base "_law_alike" 4 ["_law_found", "_law_due"] (alikeF 1) := ⟨f_law_alike, _, ok_law_alike (n := 1) (k := 3) F_law_alike B (fun _ => c_law_alike_0), mg_law_alike, kp_law_alike, b_law_alike⟩
  have c_law_alike_2 : Cal l.prog w K mg base "_law_alike" 5 ["_law_found", "_law_due"] (alikeF 2) := ⟨f_law_alike, _, ok_law_alike (n := 2) (k := 4) F_law_alike B (fun _ => c_law_alike_1), mg_law_alike, kp_law_alike, b_law_alike⟩
  have c_law_begun : Cal l.prog w K mg base "_law_begun" 3 ["_law_script"] (FBegun m_law_begun) := ⟨f_law_begun, _, ok_law_begun F_law_begun B, mg_law_begun, kp_law_begun, b_law_begun⟩
  have c_law_next : Cal l.prog w K mg base "_law_next" 3 ["_law_steps_here", "_law_end", "_law_place"] (FM cx (A := (List ((S × Int))) × Int × Int) (R := List (((S × Int) × Int))) (fun a => [(eL (eP eZ eI)) a.1, eI a.2.1, eI a.2.2]) (fun v => .fr ((eL (eP (eP eZ eI) eI)) v)) (fun a => .ok (m_law_next a.1 a.2.1 a.2.2))) := ⟨f_law_next, _, ok_law_next F_law_next B, mg_law_next, kp_law_next, b_law_next⟩
  have c_law_take : Cal l.prog w K mg base "_law_take" 3 ["_law_box", "_law_many"] (FB (A := Int) (R := Int) (fun a => [eI a]) (fun v => .sh (eI v)) (fun a => m_law_take a)) := ⟨f_law_take, _, ok_law_take F_law_take B, mg_law_take, kp_law_take, b_law_take⟩
  have c_law_marks : Cal l.prog w K mg base "_law_marks" 5 ["_law_box", "_law_most", "_law_length"] (FB (A := Int × Int) (R := List Int) (fun a => [eI a.1, eI a.2]) (fun v => .sh ((eT eI) v)) (fun a => m_law_marks a.1 a.2)) := ⟨f_law_marks, _, ok_law_marks F_law_marks B c_law_take, mg_law_marks, kp_law_marks, b_law_marks⟩
  have c_is_number : Cal l.prog w K mg base "is_number" 3 ["value", "lowest", "highest"] (FM cx (A := Int × Int × Int) (R := Bool) (fun a => [eI a.1, eI a.2.1, eI a.2.2]) (fun v => .sh (eB v)) (fun a => .ok (m_is_number a.1 a.2.1 a.2.2))) := ⟨f_is_number, _, ok_is_number F_is_number B, mg_is_number, kp_is_number, b_is_number⟩
  have k_Ruler : MakeD l.prog w K mg base "Ruler" C_Ruler 5 ["self", "marks", "error"] (FMI cx (A := (List Int) × Int) (R := Rul) (fun a => [(eT eI) a.1, eI a.2]) (fun r => [.int r.error, .tup (r.marks.map D.int)]) (fun a => mk_Ruler a.1 a.2)) := ⟨f_Ruler_init, _, ⟨mki_Ruler, at_Ruler_init, fn_Ruler_init, kc_Ruler⟩, mg_Ruler, ok_Ruler_init F_Ruler_init B c_is_number cl_Ruler mg_MAX_ERROR mg_MAX_LENGTH mg_MAX_MARKS mg_MIN_MARKS, b_Ruler_init⟩
  have c_law_ruler : Cal l.prog w K mg base "_law_ruler" 8 ["_law_box", "_law_most", "_law_length"] (FB (A := Int × Int) (R := Rul) (fun a => [eI a.1, eI a.2]) (fun v => .sh ((eRul C_Ruler) v)) (fun a => m_law_ruler a.1 a.2)) := ⟨f_law_ruler, _, ok_law_ruler F_law_ruler B c_law_marks c_law_take k_Ruler, mg_law_ruler, kp_law_ruler, b_law_ruler⟩
  have c_is_name : Cal l.prog w K mg base "is_name" 3 ["name"] (FM cx (A := S) (R := Bool) (fun a => [eZ a]) (fun v => .sh (eB v)) (fun a => m_is_name a)) := ⟨f_is_name, _, ok_is_name F_is_name B mg_LETTERS mg_MAX_LETTERS, mg_is_name, kp_is_name, b_is_name⟩
  have k_Rack : MakeD l.prog w K mg base "Rack" C_Rack 5 ["self", "rulers"] (FMI cx (A := List (S × Rul)) (R := Rak) (fun a => [(eD kZ (eRul C_Ruler)) a]) (fun r => [eD kZ (eRul C_Ruler) r.held]) (fun a => mk_Rack a)) := ⟨f_Rack_init, _, ⟨mki_Rack, at_Rack_init, fn_Rack_init, kc_Rack⟩, mg_Rack, ok_Rack_init F_Rack_init B c_is_name cl_Rack mg_MAX_RULERS, b_Rack_init⟩
  have c_law_rack : Cal l.prog w K mg base "_law_rack" 10 ["_law_box", "_law_many", "_law_most", "_law_length"] (FB (A := Int × Int × Int) (R := Rak) (fun a => [eI a.1, eI a.2.1, eI a.2.2]) (fun v => .sh ((eRak C_Rack C_Ruler) v)) (fun a => m_law_rack a.1 a.2.1 a.2.2)) := ⟨f_law_rack, _, ok_law_rack F_law_rack B c_law_ruler c_law_take k_Rack, mg_law_rack, kp_law_rack, b_law_rack⟩
  have c_law_different : Cal l.prog w K mg base "_law_different" 3 ["_law_values"] (FM cx (A := List Int) (R := List Int) (fun a => [(eL eI) a]) (fun v => .fr ((eL eI) v)) (fun a => .ok (m_law_different a))) := ⟨f_law_different, _, ok_law_different F_law_different B, mg_law_different, kp_law_different, b_law_different⟩
  have c_law_spans : Cal l.prog w K mg base "_law_spans" 3 ["_law_marks_here"] (FM cx (A := List Int) (R := List Int) (fun a => [(eT eI) a]) (fun v => .fr ((eL eI) v)) (fun a => m_law_spans a)) := ⟨f_law_spans, _, ok_law_spans F_law_spans B, mg_law_spans, kp_law_spans, b_law_spans⟩
  have p_Rack_names : PropD l.prog w K mg base C_Rack "names" 3 (FM cx (A := Rak) (R := List S) (fun a => [(eRak C_Rack C_Ruler) a]) (fun v => .sh ((eT eZ) v)) (fun a => .ok (m_Rack_names a))) := ⟨p_Rack_names, f_Rack_names, _, at_Rack_names, sp_Rack_names, tk_Rack_names, ⟨_, rc_Rack_names⟩, ok_Rack_names F_Rack_names B cl_Rack, b_Rack_names⟩
  have p_Ruler_marks : PropD l.prog w K mg base C_Ruler "marks" 3 (FM cx (A := Rul) (R := List Int) (fun a => [(eRul C_Ruler) a]) (fun v => .sh ((eT eI) v)) (fun a => .ok (m_Ruler_marks a))) := ⟨p_Ruler_marks, f_Ruler_marks, _, at_Ruler_marks, sp_Ruler_marks, tk_Ruler_marks, ⟨_, rc_Ruler_marks⟩, ok_Ruler_marks F_Ruler_marks B cl_Ruler, b_Ruler_marks⟩
  have x_Rack_getitem : ItemD l.prog w K mg base C_Rack 3 ["self", "name"] (FM cx (A := Rak × S) (R := Rul) (fun a => [(eRak C_Rack C_Ruler) a.1, eZ a.2]) (fun v => .sh ((eRul C_Ruler) v)) (fun a => m_Rack___getitem a.1 a.2)) := ⟨f_Rack_getitem, _, at_Rack_getitem, fn_Rack_getitem, (by unfold PySem.W.fnIn; rw [l_Rack_getitem]), ok_Rack_getitem F_Rack_getitem B cl_Rack, b_Rack_getitem⟩
  have c_law_steps : Cal l.prog w K mg base "_law_steps" 6 ["_law_rack_here"] (FM cx (A := Rak) (R := List ((S × Int))) (fun a => [(eRak C_Rack C_Ruler) a]) (fun v => .fr ((eL (eP eZ eI)) v)) (fun a => m_law_steps a)) := ⟨f_law_steps, _, ok_law_steps F_law_steps B c_law_different c_law_spans cl_Rack cl_Ruler p_Rack_names p_Ruler_marks x_Rack_getitem, mg_law_steps, kp_law_steps, b_law_steps⟩
  have c_next_places : Cal l.prog w K mg base "next_places" 3 ["steps", "end", "place"] (FM cx (A := (List ((S × Int))) × Int × Int) (R := List (((S × Int) × Int))) (fun a => [(eL (eP eZ eI)) a.1, eI a.2.1, eI a.2.2]) (fun v => .fr ((eL (eP (eP eZ eI) eI)) v)) (fun a => .ok (m_next_places a.1 a.2.1 a.2.2))) := ⟨f_next_places, _, ok_next_places F_next_places B, mg_next_places, kp_next_places, b_next_places⟩
  have c_spread_of : Cal l.prog w K mg base "spread_of" 3 ["marks"] (FM cx (A := List Int) (R := List Int) (fun a => [(eT eI) a]) (fun v => .fr ((eL eI) v)) (fun a => m_spread_of a)) := ⟨f_spread_of, _, ok_spread_of F_spread_of B, mg_spread_of, kp_spread_of, b_spread_of⟩
  have p_Ruler_spans : PropD l.prog w K mg base C_Ruler "spans" 5 (FM cx (A := Rul) (R := List Int) (fun a => [(eRul C_Ruler) a]) (fun v => .sh ((eT eI) v)) (fun a => m_Ruler_spans a)) := ⟨p_Ruler_spans, f_Ruler_spans, _, at_Ruler_spans, sp_Ruler_spans, tk_Ruler_spans, ⟨_, rc_Ruler_spans⟩, ok_Ruler_spans F_Ruler_spans B c_spread_of cl_Ruler, b_Ruler_spans⟩
  have p_Rack_steps : PropD l.prog w K mg base C_Rack "steps" 8 (FM cx (A := Rak) (R := List ((S × Int))) (fun a => [(eRak C_Rack C_Ruler) a]) (fun v => .fr ((eL (eP eZ eI)) v)) (fun a => m_Rack_steps a)) := ⟨p_Rack_steps, f_Rack_steps, _, at_Rack_steps, sp_Rack_steps, tk_Rack_steps, ⟨_, rc_Rack_steps⟩, ok_Rack_steps F_Rack_steps B cl_Rack cl_Ruler p_Ruler_spans, b_Rack_steps⟩
  have c_count_tables : Cal l.prog w K mg base "count_tables" 11 ["rack", "end", "goal", "number"] (FM cx (A := Rak × Int × Int × Int) (R := List (List (Int × Int))) (fun a => [(eRak C_Rack C_Ruler) a.1, eI a.2.1, eI a.2.2.1, eI a.2.2.2]) (fun v => .fr ((eL (eD kI eI)) v)) (fun a => m_count_tables a.1 a.2.1 a.2.2.1 a.2.2.2)) := ⟨f_count_tables, _, ok_count_tables F_count_tables B c_next_places cl_Rack p_Rack_steps, mg_count_tables, kp_count_tables, b_count_tables⟩
  have c_validate_places : Cal l.prog w K mg base "validate_places" 5 ["end", "places"] (FM cx (A := Int × (List Int)) (R := Unit) (fun a => [eI a.1, (eL eI) a.2]) (fun v => .sh (eU v)) (fun a => m_validate_places a.1 a.2)) := ⟨f_validate_places, _, ok_validate_places F_validate_places B c_is_number mg_MAX_END, mg_validate_places, kp_validate_places, b_validate_places⟩
  have c_validate_rows : Cal l.prog w K mg base "validate_rows" 7 ["end", "begin", "goal", "number"] (FM cx (A := Int × Int × Int × Int) (R := Unit) (fun a => [eI a.1, eI a.2.1, eI a.2.2.1, eI a.2.2.2]) (fun v => .sh (eU v)) (fun a => m_validate_rows a.1 a.2.1 a.2.2.1 a.2.2.2)) := ⟨f_validate_rows, _, ok_validate_rows F_validate_rows B c_is_number c_validate_places mg_MAX_LAYINGS, mg_validate_rows, kp_validate_rows, b_validate_rows⟩
  have c_row_at : Cal l.prog w K mg base "row_at" 13 ["rack", "end", "begin", "goal", "number", "index"] (FM cx (A := Rak × Int × Int × Int × Int × Int) (R := List ((S × Int))) (fun a => [(eRak C_Rack C_Ruler) a.1, eI a.2.1, eI a.2.2.1, eI a.2.2.2.1, eI a.2.2.2.2.1, eI a.2.2.2.2.2]) (fun v => .fr ((eL (eP eZ eI)) v)) (fun a => m_row_at a.1 a.2.1 a.2.2.1 a.2.2.2.1 a.2.2.2.2.1 a.2.2.2.2.2)) := ⟨f_row_at, _, ok_row_at F_row_at B c_count_tables c_is_number c_next_places c_validate_rows cl_Rack p_Rack_steps, mg_row_at, kp_row_at, b_row_at⟩
  have c_row_count : Cal l.prog w K mg base "row_count" 13 ["rack", "end", "begin", "goal", "number"] (FM cx (A := Rak × Int × Int × Int × Int) (R := Int) (fun a => [(eRak C_Rack C_Ruler) a.1, eI a.2.1, eI a.2.2.1, eI a.2.2.2.1, eI a.2.2.2.2]) (fun v => .sh (eI v)) (fun a => m_row_count a.1 a.2.1 a.2.2.1 a.2.2.2.1 a.2.2.2.2)) := ⟨f_row_count, _, ok_row_count F_row_count B c_count_tables c_validate_rows, mg_row_count, kp_row_count, b_row_count⟩
  exact ok_law F_law B c_law_alike_2 c_law_begun c_law_next c_law_rack c_law_steps c_law_take c_row_at c_row_count
theorem walk {l : PySem.W.OpenLaw} {q : Program} {loose : List Str} {XP : (Str → Option Value) → Heap → Prop} {YP : World → Heap → Prop} {d : DefRec} {K : Params → PySem.W.Frag} (hn : l.most = some 63) (hdf : d.params.defaults = [])
    (hY : ∀ (w : World) (h : Heap), YP w h → (K w.params).In h)
    (F : ∀ (w : World) (mg : Str → Option Value) (fa : Addr) (h : Heap), (K w.params).In h → h.Ns mainGlobals mg → mg d.name = some (.ref fa) →
      ∃ fd : FuncData, (∀ (s : Shared) (u : Value), BindsTo s fd ⟨[u], []⟩ [("_law_script", u)]) ∧ ∀ base : Heap, (K w.params).In base → base.Ns mainGlobals mg → FnOk l.prog w (K w.params) mg base (L2.CX l.prog w) 15 fa fd ["_law_script"] (spD (K w.params) (FLaw m_law))) :
    PySem.W.WalkO q loose XP YP l.row.toRowW d [] (fun f vs => PySem.call f vs) :=
  L2.walk_of (n := 63) (k := 15) (x := "_law_script") (CX := fun w => L2.CX l.prog w) (sp := fun w => spD (K w.params) (FLaw m_law)) hn (by decide) hdf ⟨rfl, by decide, by decide⟩ hY F (fun _ H a ns hl _ hS => law_sp  hS) fun _ _ _ _ _ h => by
    obtain ⟨_, _, _, _, _, _, _, _, _, _, _, _, z⟩ := h
    exact z
end
end RB
open PySem PySem.W PyProof.Rows
set_option maxRecDepth 100000 in
set_option maxHeartbeats 0 in
theorem PySem.Challenge.cw_rulerbits_k66_whole_rows_and_their_numbe_holds : PySem.Challenge.rw_rulerbits_k66_whole_rows_and_their_numbe.Holds := by
  w_on; o_law; k_head; (case hw => w_witness2)
  k_fill
  refine RB.walk (l := PySem.Challenge.rw_rulerbits_k66_whole_rows_and_their_numbe) rfl rfl (fun w h Y => PySem.W.kIn_of Y) ?F
  case F =>
    intro w mg fa h KX G hmg
    refine' RB.all_mk (fun _ => 0) KX G hmg ?z_int ?z_len ?z_list ?z_range ?z_sorted ?z_tuple ?z_dict ?z_isinstance ?z_bool ?z_str ?z_enumerate ?z_reversed ?z_abs ?z_min ?z_max ?z_sum ?z_zip ?z_set ?z_all ?z_divmod ?g_MAX_ERROR ?g_MAX_LENGTH ?g_MAX_MARKS ?g_MIN_MARKS ?g_LETTERS ?g_MAX_LETTERS ?g_MAX_RULERS ?g_MAX_END ?g_MAX_LAYINGS ?g_Ruler ?pg_Ruler ?ic_Ruler ?po_Ruler ?sa_Ruler ?ca_Ruler ?cn_Ruler ?ct_Ruler ?cm_Ruler ?sa_Ruler_own_error ?sg_Ruler_own_error ?sk_Ruler_own_error ?sy_Ruler_own_error ?sx_Ruler_own_error ?sa_Ruler_own_marks ?sg_Ruler_own_marks ?sk_Ruler_own_marks ?sy_Ruler_own_marks ?sx_Ruler_own_marks ?nf_Ruler ?g_Rack ?pg_Rack ?ic_Rack ?po_Rack ?sa_Rack ?ca_Rack ?cn_Rack ?ct_Rack ?cm_Rack ?sa_Rack_held ?sg_Rack_held ?sk_Rack_held ?sy_Rack_held ?sx_Rack_held ?nf_Rack ?a_law_alike ?l_law_alike ?c_law_alike ?kp_law_alike ?a_law_begun ?l_law_begun ?c_law_begun ?kp_law_begun ?a_law_next ?l_law_next ?c_law_next ?kp_law_next ?a_law_take ?l_law_take ?c_law_take ?kp_law_take ?a_law_marks ?l_law_marks ?c_law_marks ?kp_law_marks ?a_is_number ?l_is_number ?c_is_number ?kp_is_number ?at_Ruler_init ?fn_Ruler_init ?l_Ruler_init ?c_Ruler_init ?kp_Ruler_init ?mki_Ruler ?kc_Ruler ?a_law_ruler ?l_law_ruler ?c_law_ruler ?kp_law_ruler ?a_is_name ?l_is_name ?c_is_name ?kp_is_name ?at_Rack_init ?fn_Rack_init ?l_Rack_init ?c_Rack_init ?kp_Rack_init ?mki_Rack ?kc_Rack ?a_law_rack ?l_law_rack ?c_law_rack ?kp_law_rack ?a_law_different ?l_law_different ?c_law_different ?kp_law_different ?a_law_spans ?l_law_spans ?c_law_spans ?kp_law_spans ?at_Rack_names ?sp_Rack_names ?tk_Rack_names ?rc_Rack_names ?l_Rack_names ?c_Rack_names ?kp_Rack_names ?at_Ruler_marks ?sp_Ruler_marks ?tk_Ruler_marks ?rc_Ruler_marks ?l_Ruler_marks ?c_Ruler_marks ?kp_Ruler_marks ?at_Rack_getitem ?fn_Rack_getitem ?l_Rack_getitem ?c_Rack_getitem ?kp_Rack_getitem ?a_law_steps ?l_law_steps ?c_law_steps ?kp_law_steps ?a_next_places ?l_next_places ?c_next_places ?kp_next_places ?a_spread_of ?l_spread_of ?c_spread_of ?kp_spread_of ?at_Ruler_spans ?sp_Ruler_spans ?tk_Ruler_spans ?rc_Ruler_spans ?l_Ruler_spans ?c_Ruler_spans ?kp_Ruler_spans ?at_Rack_steps ?sp_Rack_steps ?tk_Rack_steps ?rc_Rack_steps ?l_Rack_steps ?c_Rack_steps ?kp_Rack_steps ?a_count_tables ?l_count_tables ?c_count_tables ?kp_count_tables ?a_validate_places ?l_validate_places ?c_validate_places ?kp_validate_places ?a_validate_rows ?l_validate_rows ?c_validate_rows ?kp_validate_rows ?a_row_at ?l_row_at ?c_row_at ?kp_row_at ?a_row_count ?l_row_count ?c_row_count ?kp_row_count ?a_law ?l_law ?c_law ?kp_law
    (case z_int => k_is)
    (case z_len => k_is)
    (case z_list => k_is)
    (case z_range => k_is)
    (case z_sorted => k_is)
    (case z_tuple => k_is)
    (case z_dict => k_is)
    (case z_isinstance => k_is)
    (case z_bool => k_is)
    (case z_str => k_is)
    (case z_enumerate => k_is)
    (case z_reversed => k_is)
    (case z_abs => k_is)
    (case z_min => k_is)
    (case z_max => k_is)
    (case z_sum => k_is)
    (case z_zip => k_is)
    (case z_set => k_is)
    (case z_all => k_is)
    (case z_divmod => k_is)
    (case g_MAX_ERROR => k_is)
    (case g_MAX_LENGTH => k_is)
    (case g_MAX_MARKS => k_is)
    (case g_MIN_MARKS => k_is)
    (case g_LETTERS => k_is)
    (case g_MAX_LETTERS => k_is)
    (case g_MAX_RULERS => k_is)
    (case g_MAX_END => k_is)
    (case g_MAX_LAYINGS => k_is)
    (case g_Ruler => k_is)
    (case pg_Ruler => k_is)
    (case ic_Ruler => k_is)
    (case po_Ruler => k_is)
    (case sa_Ruler => k_is)
    (case ca_Ruler => k_is)
    (case cn_Ruler => k_is)
    (case ct_Ruler => k_is)
    (case cm_Ruler => k_is)
    (case sa_Ruler_own_error => k_is)
    (case sg_Ruler_own_error => k_is)
    (case sk_Ruler_own_error => k_is)
    (case sy_Ruler_own_error => k_is)
    (case sx_Ruler_own_error => k_is)
    (case sa_Ruler_own_marks => k_is)
    (case sg_Ruler_own_marks => k_is)
    (case sk_Ruler_own_marks => k_is)
    (case sy_Ruler_own_marks => k_is)
    (case sx_Ruler_own_marks => k_is)
    (case nf_Ruler => k_is)
    (case g_Rack => k_is)
    (case pg_Rack => k_is)
    (case ic_Rack => k_is)
    (case po_Rack => k_is)
    (case sa_Rack => k_is)
    (case ca_Rack => k_is)
    (case cn_Rack => k_is)
    (case ct_Rack => k_is)
    (case cm_Rack => k_is)
    (case sa_Rack_held => k_is)
    (case sg_Rack_held => k_is)
    (case sk_Rack_held => k_is)
    (case sy_Rack_held => k_is)
    (case sx_Rack_held => k_is)
    (case nf_Rack => k_is)
    (case a_law_alike => k_is)
    (case l_law_alike => k_is)
    (case c_law_alike => k_is)
    (case kp_law_alike => k_is)
    (case a_law_begun => k_is)
    (case l_law_begun => k_is)
    (case c_law_begun => k_is)
    (case kp_law_begun => k_is)
    (case a_law_next => k_is)
    (case l_law_next => k_is)
    (case c_law_next => k_is)
    (case kp_law_next => k_is)
    (case a_law_take => k_is)
    (case l_law_take => k_is)
    (case c_law_take => k_is)
    (case kp_law_take => k_is)
    (case a_law_marks => k_is)
    (case l_law_marks => k_is)
    (case c_law_marks => k_is)
    (case kp_law_marks => k_is)
    (case a_is_number => k_is)
    (case l_is_number => k_is)
    (case c_is_number => k_is)
    (case kp_is_number => k_is)
    (case at_Ruler_init => k_is)
    (case fn_Ruler_init => k_is)
    (case l_Ruler_init => k_is)
    (case c_Ruler_init => k_is)
    (case kp_Ruler_init => k_is)
    (case mki_Ruler => k_is)
    (case kc_Ruler => k_is)
    (case a_law_ruler => k_is)
    (case l_law_ruler => k_is)
    (case c_law_ruler => k_is)
    (case kp_law_ruler => k_is)
    (case a_is_name => k_is)
    (case l_is_name => k_is)
    (case c_is_name => k_is)
    (case kp_is_name => k_is)
    (case at_Rack_init => k_is)
    (case fn_Rack_init => k_is)
    (case l_Rack_init => k_is)
    (case c_Rack_init => k_is)
    (case kp_Rack_init => k_is)
    (case mki_Rack => k_is)
    (case kc_Rack => k_is)
    (case a_law_rack => k_is)
    (case l_law_rack => k_is)
    (case c_law_rack => k_is)
    (case kp_law_rack => k_is)
    (case a_law_different => k_is)
    (case l_law_different => k_is)
    (case c_law_different => k_is)
    (case kp_law_different => k_is)
    (case a_law_spans => k_is)
    (case l_law_spans => k_is)
    (case c_law_spans => k_is)
    (case kp_law_spans => k_is)
    (case at_Rack_names => k_is)
    (case sp_Rack_names => k_is)
    (case tk_Rack_names => k_is)
    (case rc_Rack_names => k_is)
    (case l_Rack_names => k_is)
    (case c_Rack_names => k_is)
    (case kp_Rack_names => k_is)
    (case at_Ruler_marks => k_is)
    (case sp_Ruler_marks => k_is)
    (case tk_Ruler_marks => k_is)
    (case rc_Ruler_marks => k_is)
    (case l_Ruler_marks => k_is)
    (case c_Ruler_marks => k_is)
    (case kp_Ruler_marks => k_is)
    (case at_Rack_getitem => k_is)
    (case fn_Rack_getitem => k_is)
    (case l_Rack_getitem => k_is)
    (case c_Rack_getitem => k_is)
    (case kp_Rack_getitem => k_is)
    (case a_law_steps => k_is)
    (case l_law_steps => k_is)
    (case c_law_steps => k_is)
    (case kp_law_steps => k_is)
    (case a_next_places => k_is)
    (case l_next_places => k_is)
    (case c_next_places => k_is)
    (case kp_next_places => k_is)
    (case a_spread_of => k_is)
    (case l_spread_of => k_is)
    (case c_spread_of => k_is)
    (case kp_spread_of => k_is)
    (case at_Ruler_spans => k_is)
    (case sp_Ruler_spans => k_is)
    (case tk_Ruler_spans => k_is)
    (case rc_Ruler_spans => k_is)
    (case l_Ruler_spans => k_is)
    (case c_Ruler_spans => k_is)
    (case kp_Ruler_spans => k_is)
    (case at_Rack_steps => k_is)
    (case sp_Rack_steps => k_is)
    (case tk_Rack_steps => k_is)
    (case rc_Rack_steps => k_is)
    (case l_Rack_steps => k_is)
    (case c_Rack_steps => k_is)
    (case kp_Rack_steps => k_is)
    (case a_count_tables => k_is)
    (case l_count_tables => k_is)
    (case c_count_tables => k_is)
    (case kp_count_tables => k_is)
    (case a_validate_places => k_is)
    (case l_validate_places => k_is)
    (case c_validate_places => k_is)
    (case kp_validate_places => k_is)
    (case a_validate_rows => k_is)
    (case l_validate_rows => k_is)
    (case c_validate_rows => k_is)
    (case kp_validate_rows => k_is)
    (case a_row_at => k_is)
    (case l_row_at => k_is)
    (case c_row_at => k_is)
    (case kp_row_at => k_is)
    (case a_row_count => k_is)
    (case l_row_count => k_is)
    (case c_row_count => k_is)
    (case kp_row_count => k_is)
    (case a_law => k_is)
    (case l_law => k_is)
    (case c_law => k_is)
    (case kp_law => k_is)
