import PyProof.Rows.All
import Wide.All
import OpenK.AllK
import Wide.FinOn
import HandS.ForMost
import HandS.Slots
import HandS.SlotsOwn
import HandS.TupAny
import HandS.Conv
import HandS.Rev
import HandS.Zip
import HandS.SortInts
import HandS.Style
import HandS.Flow
import HandS.Deep
import HandS.Exc
import HandS.ExcOwn
import HandS.TryOnly
import HandS.WordsExc
import HandS.Lambda
import KE.KeyNested
import HandS.IsInst
import KE.GoesMore
import HandS.DictComp
import HandS.More
import KE.KRevSl
import HandS.SetFor
import HandS.Star
import PyProof.DictUpdate
import KE.KDictSum
import HandS.Text
import HandS.SortRule
import PyProof.Rows.SortKeyStr
import HandS.DictEq
import PyProof.Rows.StrMeet
import HandS.Iter
import HandS.Wide
import KE.SortData
import KE.DataMinMax
import KE.DataCmp
import PyProof.Claim2Refuses
import HandS.Strs
import HandS.ExcIs
import HandS.ExcField
import HandS.EndOwn
import KE.KExcIs
import KE.KNestM
import KE.KDflt
import KE.KDictKeyed
import HandS.TupLen
import PyProof.TupleOfStr
import HandS.Property
import HandS.ExcInit
import HandS.MakeKwOnly
import KE.KExcSuper
import KE.KExcLine
import HandS.ClsMeth
import HandS.TupMul
import KE.KDictPairs
import HandS.TupSets
import KE.KDictCopyH
import HandS.ListItems
import HandS.Replace
import PyProof.Rows.PlainNe
import PySem.Challenge.RW_rulerbits_k91_whole_names_that_do_not_as
set_option Elab.async false
set_option linter.all false
set_option maxRecDepth 100000
set_option maxHeartbeats 4000000
set_option autoImplicit false
set_option synthInstance.maxSize 1000
namespace RB
open PySem PySem.Spec PyProof.Rows L2
inductive D where
  | non | bl (b : Bool) | int (i : Int) | str (x : Str)
  | tup (xs : List D) | lst (xs : List D)
  | dic (ks : List Key) (xs : List D)
  | ins (C : Addr) (xs : List D)
  | adr (a : Addr)
  | obj (C : Addr) (ns : List Str) (xs : List D)
  | slo (C dx : Addr) (is : List Nat) (xs : List D)
  | xdo (x : Addr) (b : Bool)
  | scr (ns : List Int)
  | tab (q : Str)
  | hob (a : Addr) (os : List (Addr × HO))
  | kd (w : World) (ks xs : List D)
mutual
def nkD : D → NestedKey
  | .int i => .num i
  | .bl b => .num (if b = true then 1 else 0)
  | .str x => .text x
  | .tup ds => .tup (nkDs ds)
  | _ => .none
def nkDs : List D → List NestedKey
  | [] => []
  | d :: ds => nkD d :: nkDs ds
end
abbrev KdE := NestedKey × Addr × V
abbrev KdR : KdE → NestedKey × Addr × Value → Prop := fun x y => y.1 = x.1 ∧ y.2.1 = x.2.1 ∧ RelV x.2.2 y.2.2
def KdAt (w : World) (h : Heap) (a : Addr) (xs : List KdE) : Prop := (a == sysModules) = false ∧ xs.length ≤ sizeLine ∧ (xs.map (·.1)).Nodup ∧
  ∃ (ys : List (NestedKey × Addr × Value)) (o : Obj) (es : Array DictEntry) (ep : Nat), Paired KdR xs ys ∧ h.get? a = some o ∧ o.ExactDict ∧ o.data = .dict es ep ∧ es.toList = ys.map fun y => (⟨y.1.hash w, .ref y.2.1, y.2.2⟩ : DictEntry)
def KdO (w : World) (a : Addr) (xs : List KdE) : HO := .ext fun h => KdAt w h a xs
/-- a slot: unknown, shared (frozen) data, an own mutable object -/
inductive Sl where
  | no | sh (d : D) | own (d : D)
/-- a result: shared data, a fresh object, the object of an own slot -/
inductive Res where
  | sh (d : D) | fr (d : D) | pk (i : Nat)
abbrev Env2 := List Sl
mutual
def Rep (K : PySem.W.Frag) (F : Hp) : D → V → Prop
  | .non, v => v = .non
  | .bl b, v => v = .bl b
  | .int i, v => v = .int i
  | .str x, v => v = .str x
  | .tup ds, v => ∃ a vs, v = .ref a ∧ SqT K F a vs ∧ RepL K F ds vs
  | .lst ds, v => ∃ a vs, v = .ref a ∧ Rd F a (.lst vs) ∧ RepL K F ds vs
  | .dic ks ds, v => ∃ a o vs, v = .ref a ∧ F a = some (.frz o (.dK (ks.zip vs))) ∧ ks.length = ds.length ∧ RepL K F ds vs
  | .ins C ds, v => ∃ a dx vs, v = .ref a ∧ SlX.Slt F a C dx (vs.map some) ∧ RepL K F ds vs
  | .adr a, v => v = .ref a
  | .obj _ _ _, _ => False
  | .slo _ _ _ _, _ => False
  | .xdo _ _, _ => False
  | .tab _, _ => False
  | .hob a os, v => v = .ref a ∧ ∀ p ∈ os, F p.1 = some p.2
  | .kd w ks ds, v => ∃ (a : Addr) (ob : Obj) (es : List KdE), v = .ref a ∧ F a = some (.frz ob (KdO w a es)) ∧ es.map (·.1) = nkDs ks ∧ RepL K F ks (es.map fun e => .ref e.2.1) ∧ RepL K F ds (es.map (·.2.2))
  | .scr ns, v => ∃ a, v = .ref a ∧ SqL K F a (ns.map V.int)
def RepL (K : PySem.W.Frag) (F : Hp) : List D → List V → Prop
  | [], vs => vs = []
  | d :: ds, vs => ∃ v r, vs = v :: r ∧ Rep K F d v ∧ RepL K F ds r
end
abbrev Ex (H H' : Hp) : Prop := ∀ a o, H a = some o → H' a = some o
theorem Ex.refl (H : Hp) : Ex H H := fun _ _ h => h
theorem Ex.trans {A B C : Hp} (x : Ex A B) (y : Ex B C) : Ex A C := fun a o h => y a o (x a o h)
theorem Ex.new {H : Hp} {p : Addr} {o : HO} (h : H p = none) : Ex H (upd H p o) := fun a u e => by
  rw [upd_ne (ne_of_none e h)]; exact e
theorem Ex.rd {F F' : Hp} (e : Ex F F') {a : Addr} {u : HO} (h : Rd F a u) : Rd F' a u := by
  rcases h with h | ⟨o, h⟩
  · exact .inl (e a _ h)
  · exact .inr ⟨o, e a _ h⟩
theorem Ex.sqL {K : PySem.W.Frag} {F F' : Hp} (e : Ex F F') {a : Addr} {xs : List V} (h : SqL K F a xs) : SqL K F' a xs := by
  rcases h with h | h
  · exact .inl (e.rd h)
  · exact .inr h
theorem Ex.sqT {K : PySem.W.Frag} {F F' : Hp} (e : Ex F F') {a : Addr} {xs : List V} (h : SqT K F a xs) : SqT K F' a xs := by
  rcases h with h | h
  · exact .inl (e.rd h)
  · exact .inr h
theorem Ex.slt {F F' : Hp} (e : Ex F F') {a C dx : Addr} {vs : List (Option V)} (h : SlX.Slt F a C dx vs) : SlX.Slt F' a C dx vs := by
  rcases h with ⟨h1, h2⟩ | ⟨h1, h2⟩
  · exact .inl ⟨e _ _ h1, h2⟩
  · exact .inr ⟨e _ _ h1, e _ _ h2⟩
mutual
theorem Rep.mono {K : PySem.W.Frag} {F F' : Hp} (e : Ex F F') : ∀ (d : D) (v : V), Rep K F d v → Rep K F' d v
  | .non, v, h => h
  | .bl b, v, h => h
  | .int i, v, h => h
  | .str x, v, h => h
  | .tup ds, v, h => by
    obtain ⟨a, vs, h1, h2, h3⟩ := h
    exact ⟨a, vs, h1, e.sqT h2, RepL.mono e ds vs h3⟩
  | .lst ds, v, h => by
    obtain ⟨a, vs, h1, h2, h3⟩ := h
    exact ⟨a, vs, h1, e.rd h2, RepL.mono e ds vs h3⟩
  | .dic ks ds, v, h => by
    obtain ⟨a, o, vs, h1, h2, h4, h3⟩ := h
    exact ⟨a, o, vs, h1, e _ _ h2, h4, RepL.mono e ds vs h3⟩
  | .ins C ds, v, h => by
    obtain ⟨a, dx, vs, h1, h2, h3⟩ := h
    exact ⟨a, dx, vs, h1, e.slt h2, RepL.mono e ds vs h3⟩
  | .adr a, v, h => h
  | .obj _ _ _, v, h => h
  | .slo _ _ _ _, v, h => h
  | .xdo _ _, v, h => h
  | .tab _, v, h => h
  | .hob a os, v, h => ⟨h.1, fun p hp => e _ _ (h.2 p hp)⟩
  | .kd w ks ds, v, h => by
    obtain ⟨a, ob, es, h1, h2, h3, h4, h5⟩ := h
    exact ⟨a, ob, es, h1, e _ _ h2, h3, RepL.mono e ks _ h4, RepL.mono e ds _ h5⟩
  | .scr ns, v, h => by
    obtain ⟨a, h1, h2⟩ := h
    exact ⟨a, h1, e.sqL h2⟩
theorem RepL.mono {K : PySem.W.Frag} {F F' : Hp} (e : Ex F F') : ∀ (ds : List D) (vs : List V), RepL K F ds vs → RepL K F' ds vs
  | [], vs, h => h
  | d :: ds, vs, h => by
    obtain ⟨v, r, h1, h2, h3⟩ := h
    exact ⟨v, r, h1, Rep.mono e d v h2, RepL.mono e ds r h3⟩
end
section
variable {K : PySem.W.Frag} {F : Hp}
theorem RepL.length : ∀ {ds : List D} {vs : List V}, RepL K F ds vs → vs.length = ds.length
  | [], vs, h => by cases (show vs = [] from h); rfl
  | d :: ds, vs, h => by
    obtain ⟨v, r, rfl, _, h3⟩ := h
    rw [List.length_cons, List.length_cons, RepL.length h3]
theorem RepL.get : ∀ {ds : List D} {vs : List V} {i : Nat} {d : D}, RepL K F ds vs → ds[i]? = some d → ∃ v, vs[i]? = some v ∧ Rep K F d v
  | [], vs, i, d, h, e => by simp at e
  | d0 :: ds, vs, 0, d, h, e => by
    obtain ⟨v, r, rfl, h2, _⟩ := h
    have : d0 = d := by simpa using e
    subst this
    exact ⟨v, rfl, h2⟩
  | d0 :: ds, vs, i + 1, d, h, e => by
    obtain ⟨v, r, rfl, _, h3⟩ := h
    obtain ⟨u, h1, h2⟩ := RepL.get (i := i) h3 (by simpa using e)
    exact ⟨u, by simpa using h1, h2⟩
theorem RepL.append : ∀ {ds es : List D} {vs us : List V}, RepL K F ds vs → RepL K F es us → RepL K F (ds ++ es) (vs ++ us)
  | [], es, vs, us, h, g => by cases (show vs = [] from h); exact g
  | d :: ds, es, vs, us, h, g => by
    obtain ⟨v, r, rfl, h2, h3⟩ := h
    exact ⟨v, r ++ us, rfl, h2, RepL.append h3 g⟩
theorem RepL.one {d : D} {v : V} (h : Rep K F d v) : RepL K F [d] [v] := ⟨v, [], rfl, h, rfl⟩
theorem RepL.drop : ∀ (n : Nat) {ds : List D} {vs : List V}, RepL K F ds vs → RepL K F (ds.drop n) (vs.drop n)
  | 0, _, _, h => h
  | n + 1, [], vs, h => by cases (show vs = [] from h); exact rfl
  | n + 1, d :: ds, vs, h => by
    obtain ⟨v, r, rfl, h2, h3⟩ := h
    exact RepL.drop n h3
theorem RepL.take : ∀ (n : Nat) {ds : List D} {vs : List V}, RepL K F ds vs → RepL K F (ds.take n) (vs.take n)
  | 0, _, _, h => rfl
  | n + 1, [], vs, h => by cases (show vs = [] from h); exact rfl
  | n + 1, d :: ds, vs, h => by
    obtain ⟨v, r, rfl, h2, h3⟩ := h
    exact ⟨v, r.take n, rfl, h2, RepL.take n h3⟩
theorem RepL.set : ∀ (i : Nat) {ds : List D} {vs : List V} {d : D} {v : V}, RepL K F ds vs → Rep K F d v → RepL K F (ds.set i d) (vs.set i v)
  | i, [], vs, d, v, h, g => by cases (show vs = [] from h); exact rfl
  | 0, d0 :: ds, vs, d, v, h, g => by
    obtain ⟨u, r, rfl, _, h3⟩ := h
    exact ⟨v, r, rfl, g, h3⟩
  | i + 1, d0 :: ds, vs, d, v, h, g => by
    obtain ⟨u, r, rfl, h2, h3⟩ := h
    exact ⟨u, r.set i v, rfl, h2, RepL.set i h3 g⟩
theorem RepL.reverse : ∀ {ds : List D} {vs : List V}, RepL K F ds vs → RepL K F ds.reverse vs.reverse
  | [], vs, h => by cases (show vs = [] from h); exact rfl
  | d :: ds, vs, h => by
    obtain ⟨v, r, rfl, h2, h3⟩ := h
    rw [List.reverse_cons, List.reverse_cons]
    exact (RepL.reverse h3).append (.one h2)
end
/-- what is not frozen as it stands -/
def isDic : D → Bool
  | .lst _ => false
  | .tup _ => false
  | .int _ => false
  | .bl _ => false
  | .str _ => false
  | .non => false
  | .ins _ _ => false
  | .adr _ => false
  | _ => true
/-- the object at p, its parts frozen -/
def Own (K : PySem.W.Frag) (F H : Hp) (p : Addr) : D → Prop
  | .lst ds => ∃ vs, H p = some (.lst vs) ∧ RepL K F ds vs
  | .dic ks ds => ∃ vs, H p = some (.dK (ks.zip vs)) ∧ ks.length = ds.length ∧ RepL K F ds vs
  | .obj C ns ds => ∃ dx vs, H p = some (.ins C dx (ns.zip vs)) ∧ ns.length = ds.length ∧ RepL K F ds vs
  | .slo C dx is ds => (is = [] ∧ ds = [] ∧ H p = some (.ins C dx [])) ∨ ∃ us vs, H p = some (SlX.SlO p C dx us) ∧ is.length = ds.length ∧ RepL K F ds vs ∧ ∀ (j : Nat) (i : Nat) (v : V), is[j]? = some i → vs[j]? = some v → us[i]? = some (some v)
  | .xdo x b => H p = some (if b then .xd [] else .own x)
  | .tab q => ∃ ps : Array Value, H p = some (.tbl ps) ∧ TriplesOk ps.toList ∧ ∀ (pos : Pos) (cv : Value), codeAmong pos ps.toList = some cv → ∃ c, cv = .ref c ∧ F c = some (LamX.CodeO c q)
  | .kd w ks ds => ∃ es : List KdE, H p = some (KdO w p es) ∧ es.map (·.1) = nkDs ks ∧ RepL K F ks (es.map fun e => .ref e.2.1) ∧ RepL K F ds (es.map (·.2.2))
  | _ => False
theorem Own.mono {K : PySem.W.Frag} {F F' H H' : Hp} {p : Addr} {d : D} (e : Ex F F') (k : ∀ o, H p = some o → H' p = some o) (h : Own K F H p d) : Own K F' H' p d := by
  cases d with
  | lst ds => obtain ⟨vs, h1, h2⟩ := h; exact ⟨vs, k _ h1, RepL.mono e _ _ h2⟩
  | dic ks ds => obtain ⟨vs, h1, h3, h2⟩ := h; exact ⟨vs, k _ h1, h3, RepL.mono e _ _ h2⟩
  | obj C ns ds => obtain ⟨dx, vs, h1, h3, h2⟩ := h; exact ⟨dx, vs, k _ h1, h3, RepL.mono e _ _ h2⟩
  | slo C dx is ds =>
    rcases h with ⟨h1, h2, h3⟩ | ⟨us, vs, h1, h2, h3, h4⟩
    · exact .inl ⟨h1, h2, k _ h3⟩
    · exact .inr ⟨us, vs, k _ h1, h2, RepL.mono e _ _ h3, h4⟩
  | xdo x b => exact k _ h
  | kd w ks ds => obtain ⟨es, h1, h2, h3, h4⟩ := h; exact ⟨es, k _ h1, h2, RepL.mono e _ _ h3, RepL.mono e _ _ h4⟩
  | tab q => obtain ⟨ps, h1, h2, h3⟩ := h; exact ⟨ps, k _ h1, h2, fun pos cv hc => let ⟨c, e1, e2⟩ := h3 pos cv hc; ⟨c, e1, e _ _ e2⟩⟩
  | _ => exact h.elim
theorem Own.there {K : PySem.W.Frag} {F H : Hp} {p : Addr} {d : D} (h : Own K F H p d) : ∃ o, H p = some o := by
  cases d with
  | lst ds => obtain ⟨vs, h1, h2⟩ := h; exact ⟨_, h1⟩
  | dic ks ds => obtain ⟨vs, h1, h3, h2⟩ := h; exact ⟨_, h1⟩
  | obj C ns ds => obtain ⟨dx, vs, h1, h3, h2⟩ := h; exact ⟨_, h1⟩
  | slo C dx is ds =>
    rcases h with ⟨h1, h2, h3⟩ | ⟨us, vs, h1, h2, h3, h4⟩
    · exact ⟨_, h3⟩
    · exact ⟨_, h1⟩
  | xdo x b => exact ⟨_, h⟩
  | tab q => obtain ⟨ps, h1, _⟩ := h; exact ⟨_, h1⟩
  | kd w ks ds => obtain ⟨es, h1, _⟩ := h; exact ⟨_, h1⟩
  | _ => exact h.elim
/-- a view: frozen, or an object whose parts are -/
def Vw (K : PySem.W.Frag) (F H : Hp) (d : D) (v : V) : Prop := Rep K F d v ∨ ∃ p, v = .ref p ∧ Own K F H p d
theorem Vw.lst {K : PySem.W.Frag} {F H : Hp} (e : Ex F H) {ds : List D} {v : V} (h : Vw K F H (.lst ds) v) : ∃ a vs, v = .ref a ∧ Rd H a (.lst vs) ∧ RepL K F ds vs := by
  rcases h with ⟨a, vs, h1, h2, h3⟩ | ⟨p, h1, vs, h2, h3⟩
  · exact ⟨a, vs, h1, e.rd h2, h3⟩
  · exact ⟨p, vs, h1, .inl h2, h3⟩
theorem Vw.tup {K : PySem.W.Frag} {F H : Hp} (e : Ex F H) {ds : List D} {v : V} (h : Vw K F H (.tup ds) v) : ∃ a vs, v = .ref a ∧ SqT K H a vs ∧ RepL K F ds vs := by
  rcases h with ⟨a, vs, h1, h2, h3⟩ | ⟨p, h1, h2⟩
  · exact ⟨a, vs, h1, e.sqT h2, h3⟩
  · exact h2.elim
theorem Vw.dic {K : PySem.W.Frag} {F H : Hp} (e : Ex F H) {ks : List Key} {ds : List D} {v : V} (h : Vw K F H (.dic ks ds) v) : ∃ a vs, v = .ref a ∧ Rd H a (.dK (ks.zip vs)) ∧ ks.length = ds.length ∧ RepL K F ds vs := by
  rcases h with ⟨a, o, vs, h1, h2, h4, h3⟩ | ⟨p, h1, vs, h2, h4, h3⟩
  · exact ⟨a, vs, h1, .inr ⟨o, e _ _ h2⟩, h4, h3⟩
  · exact ⟨p, vs, h1, .inl h2, h4, h3⟩
theorem Vw.int {K : PySem.W.Frag} {F H : Hp} {i : Int} {v : V} (h : Vw K F H (.int i) v) : v = .int i := by
  rcases h with h | ⟨p, h1, h2⟩
  · exact h
  · exact h2.elim
theorem Vw.bl {K : PySem.W.Frag} {F H : Hp} {i : Bool} {v : V} (h : Vw K F H (.bl i) v) : v = .bl i := by
  rcases h with h | ⟨p, h1, h2⟩
  · exact h
  · exact h2.elim
theorem Vw.str {K : PySem.W.Frag} {F H : Hp} {i : Str} {v : V} (h : Vw K F H (.str i) v) : v = .str i := by
  rcases h with h | ⟨p, h1, h2⟩
  · exact h
  · exact h2.elim
theorem Vw.non {K : PySem.W.Frag} {F H : Hp} {v : V} (h : Vw K F H .non v) : v = .non := by
  rcases h with h | ⟨p, h1, h2⟩
  · exact h
  · exact h2.elim
theorem Vw.ins {K : PySem.W.Frag} {F H : Hp} (e : Ex F H) {C : Addr} {ds : List D} {v : V} (h : Vw K F H (.ins C ds) v) : ∃ a dx vs, v = .ref a ∧ SlX.Slt H a C dx (vs.map some) ∧ RepL K F ds vs := by
  rcases h with ⟨a, dx, vs, h1, h2, h3⟩ | ⟨p, h1, h2⟩
  · exact ⟨a, dx, vs, h1, e.slt h2, h3⟩
  · exact h2.elim
/-- the open region: objects that are known by their address, as data -/
abbrev GD := Addr → Option D
def updG (G : GD) (a : Addr) (d : D) : GD := fun b => if b = a then some d else G b
theorem updG_same {G : GD} {a : Addr} {d : D} : updG G a d a = some d := by unfold updG; rw [if_pos rfl]
theorem updG_ne {G : GD} {a b : Addr} {d : D} (h : b ≠ a) : updG G a d b = G b := by unfold updG; rw [if_neg h]
/-- F0: what was frozen at the entry; T: what others hold; F: frozen; G: the open region; H: all -/
structure Bas (K : PySem.W.Frag) (F0 T F : Hp) (G : GD) (H : Hp) : Prop where
  ff : Ex F0 F
  ft : ∀ a o, F a = some o → F0 a = some o ∨ T a = none
  fh : Ex F H
  gh : ∀ a d, G a = some d → Own K F H a d
  fg : ∀ a o, G a = some o → F a = none
  gt : ∀ a o, G a = some o → T a = none
  tk : Ex T H
def SlotOk (K : PySem.W.Frag) (T F : Hp) (G : GD) (H : Hp) : Sl → Option (Option V) → Prop
  | .no, _ => True
  | .sh d, x => ∃ v, x = some (some v) ∧ Rep K F d v
  | .own d, x => ∃ p, x = some (some (.ref p)) ∧ Own K F H p d ∧ F p = none ∧ G p = none ∧ T p = none
structure Sta (K : PySem.W.Frag) (F0 T F : Hp) (G : GD) (H : Hp) (r : Env2) (σ : L2.St) : Prop where
  bas : Bas K F0 T F G H
  len : r.length = σ.length
  sl : ∀ (i : Nat) (s : Sl), r[i]? = some s → SlotOk K T F G H s σ[i]?
  ap : ∀ (i j : Nat) (d e : D), i ≠ j → r[i]? = some (.own d) → r[j]? = some (.own e) → σ[i]? ≠ σ[j]?
def ResOk (K : PySem.W.Frag) (T F : Hp) (G : GD) (H : Hp) (r : Env2) (σ : L2.St) : Res → V → Prop
  | .sh d, v => Rep K F d v
  | .fr d, v => ∃ p, v = .ref p ∧ Own K F H p d ∧ F p = none ∧ G p = none ∧ T p = none ∧ ∀ (i : Nat) (e : D), r[i]? = some (.own e) → σ[i]? ≠ some (some (.ref p))
  | .pk i, v => σ[i]? = some (some v) ∧ ∃ d, r[i]? = some (.own d)
/-- the view of a result -/
def vw (r : Env2) : Res → Option D
  | .sh d => some d
  | .fr d => if isDic d then none else some d
  | .pk i => match r[i]? with
    | some (.own d) => some d
    | some (.sh d) => some d
    | _ => none
/-- the view of a result, or of an object of the open region -/
def VwR (r : Env2) (G : GD) (x : Res) (d : D) : Prop := vw r x = some d ∨ ∃ a, x = .sh (.adr a) ∧ G a = some d
def RtOk (K : PySem.W.Frag) (T F : Hp) (G : GD) (H : Hp) : Res → V → Prop
  | .sh d, v => Rep K F d v
  | .fr d, v => ∃ p, v = .ref p ∧ Own K F H p d ∧ F p = none ∧ G p = none ∧ T p = none
  | .pk _, _ => False
section
variable {K : PySem.W.Frag} {F0 T F : Hp} {G : GD} {H : Hp} {r : Env2} {σ : L2.St}
theorem Sta.slot (S : Sta K F0 T F G H r σ) {i : Nat} {d : D} (h : r[i]? = some (.sh d)) : ∃ v, σ[i]? = some (some v) ∧ Rep K F d v := S.sl i _ h
theorem Sta.ownS (S : Sta K F0 T F G H r σ) {i : Nat} {d : D} (h : r[i]? = some (.own d)) : ∃ p, σ[i]? = some (some (.ref p)) ∧ Own K F H p d ∧ F p = none ∧ G p = none ∧ T p = none := S.sl i _ h
theorem Bas.gh' (B : Bas K F0 T F G H) {a : Addr} {d : D} (h : G a = some d) : ∃ o, H a = some o := (B.gh a d h).there
theorem Bas.freshF (B : Bas K F0 T F G H) {p : Addr} (hp : H p = none) : F p = none ∧ G p = none ∧ T p = none := by
  refine ⟨?_, ?_, ?_⟩
  · cases e : F p with
    | none => rfl
    | some u => rw [B.fh p u e] at hp; cases hp
  · cases e : G p with
    | none => rfl
    | some u => obtain ⟨o, ho⟩ := B.gh' e; rw [ho] at hp; cases hp
  · cases e : T p with
    | none => rfl
    | some u => rw [B.tk p u e] at hp; cases hp
/-- the open objects, while F and H grow -/
theorem Bas.gmono (B : Bas K F0 T F G H) {F' H' : Hp} (ef : Ex F F') (eh : ∀ a o, G a ≠ none → H a = some o → H' a = some o) : ∀ a d, G a = some d → Own K F' H' a d := fun a d h =>
  (B.gh a d h).mono ef fun o ho => eh a o (by rw [h]; exact fun z => nomatch z) ho
/-- the frozen part grows by a new object, others keep -/
theorem Bas.newF (B : Bas K F0 T F G H) {p : Addr} {o : HO} (hp : H p = none) : Bas K F0 T (upd F p o) G (upd H p o) := by
  obtain ⟨fp, gp, tp⟩ := B.freshF hp
  refine ⟨B.ff.trans (Ex.new fp), fun a o' e => ?_, fun a o' e => ?_, B.gmono (Ex.new fp) fun a u _ h => Ex.new hp a u h, fun a o' e => ?_, B.gt, B.tk.trans (Ex.new hp)⟩
  · by_cases h : a = p
    · subst h; exact .inr tp
    · rw [upd_ne h] at e; exact B.ft a o' e
  · by_cases h : a = p
    · subst h; rw [upd_same] at e ⊢; exact e
    · rw [upd_ne h] at e ⊢; exact B.fh a o' e
  · by_cases h : a = p
    · subst h; rw [gp] at e; cases e
    · rw [upd_ne h]; exact B.fg a o' e
/-- a new object that is not frozen -/
theorem Bas.newH (B : Bas K F0 T F G H) {p : Addr} {o : HO} (hp : H p = none) : Bas K F0 T F G (upd H p o) :=
  ⟨B.ff, B.ft, B.fh.trans (Ex.new hp), B.gmono (Ex.refl _) fun a u _ h => Ex.new hp a u h, B.fg, B.gt, B.tk.trans (Ex.new hp)⟩
/-- an object that nobody else knows is written -/
theorem Bas.put (B : Bas K F0 T F G H) {p : Addr} {o : HO} (h1 : F p = none) (h2 : G p = none) (h3 : T p = none) : Bas K F0 T F G (upd H p o) := by
  refine ⟨B.ff, B.ft, fun a u e => ?_, B.gmono (Ex.refl _) fun a u hg e => ?_, B.fg, B.gt, fun a u e => ?_⟩
  · rw [upd_ne (ne_of_none e h1)]; exact B.fh a u e
  · rw [upd_ne (fun z => hg (by rw [z]; exact h2))]; exact e
  · rw [upd_ne (ne_of_none e h3)]; exact B.tk a u e
theorem Bas.frz (B : Bas K F0 T F G H) {p : Addr} {o : HO} (ho : H p = some o) (h1 : F p = none) (h2 : G p = none) (h3 : T p = none) : Bas K F0 T (upd F p o) G H := by
  refine ⟨B.ff.trans (Ex.new h1), fun a u e => ?_, fun a u e => ?_, B.gmono (Ex.new h1) fun _ _ _ h => h, fun a u e => ?_, B.gt, B.tk⟩
  · by_cases h : a = p
    · subst h; exact .inr h3
    · rw [upd_ne h] at e; exact B.ft a u e
  · by_cases h : a = p
    · subst h; rw [upd_same] at e; cases e; exact ho
    · rw [upd_ne h] at e; exact B.fh a u e
  · by_cases h : a = p
    · subst h; rw [h2] at e; cases e
    · rw [upd_ne h]; exact B.fg a u e
/-- the slots stand when F, H grow and the own objects keep -/
theorem Sta.grow {F' : Hp} {G' : GD} {H' : Hp} {F0' T' : Hp} (S : Sta K F0 T F G H r σ) (B : Bas K F0' T' F' G' H') (ef : Ex F F')
    (ko : ∀ p, F p = none → G p = none → T p = none → (∃ o, H p = some o) → (∀ o, H p = some o → H' p = some o) ∧ F' p = none ∧ G' p = none ∧ T' p = none) : Sta K F0' T' F' G' H' r σ := by
  refine ⟨B, S.len, fun i s e => ?_, S.ap⟩
  have h := S.sl i s e
  cases s with
  | no => trivial
  | sh d => obtain ⟨v, h1, h2⟩ := h; exact ⟨v, h1, Rep.mono ef _ _ h2⟩
  | own d =>
    obtain ⟨p, h1, h2, h3, h4, h5⟩ := h
    obtain ⟨k1, k2, k3, k4⟩ := ko p h3 h4 h5 h2.there
    exact ⟨p, h1, h2.mono ef k1, k2, k3, k4⟩
theorem Sta.newF (S : Sta K F0 T F G H r σ) {p : Addr} {o : HO} (hp : H p = none) : Sta K F0 T (upd F p o) G (upd H p o) r σ := by
  refine S.grow (S.bas.newF hp) (Ex.new (S.bas.freshF hp).1) fun q h1 h2 h3 ⟨u, hu⟩ => ?_
  have hq : q ≠ p := fun z => by subst z; rw [hp] at hu; cases hu
  exact ⟨fun o' e => by rw [upd_ne hq]; exact e, by rw [upd_ne hq]; exact h1, h2, h3⟩
theorem Sta.newH (S : Sta K F0 T F G H r σ) {p : Addr} {o : HO} (hp : H p = none) : Sta K F0 T F G (upd H p o) r σ := by
  refine S.grow (S.bas.newH hp) (Ex.refl _) fun q h1 h2 h3 ⟨u, hu⟩ => ?_
  have hq : q ≠ p := fun z => by subst z; rw [hp] at hu; cases hu
  exact ⟨fun o' e => by rw [upd_ne hq]; exact e, h1, h2, h3⟩
theorem Sta.freshR (S : Sta K F0 T F G H r σ) {p : Addr} (hp : H p = none) : ∀ (i : Nat) (e : D), r[i]? = some (.own e) → σ[i]? ≠ some (some (.ref p)) := fun i e he z => by
  obtain ⟨q, h1, h2, _⟩ := S.ownS he
  rw [z] at h1
  cases h1
  obtain ⟨o, ho⟩ := h2.there
  rw [hp] at ho; cases ho
/-- a slot is stored -/
theorem Sta.set (S : Sta K F0 T F G H r σ) {i : Nat} {s : Sl} {v : V} (hi : i < r.length) (h : SlotOk K T F G H s (some (some v))) (ha : ∀ d, s = .own d → ∀ (j : Nat) (e : D), r[j]? = some (.own e) → j ≠ i → σ[j]? ≠ some (some v)) : Sta K F0 T F G H (r.set i s) (σ.set i (some v)) := by
  have hiσ : i < σ.length := by rw [← S.len]; exact hi
  refine ⟨S.bas, by rw [List.length_set, List.length_set]; exact S.len, fun j s' e => ?_, fun j k d e hjk ej ek => ?_⟩
  · by_cases hj : i = j
    · subst hj
      rw [List.getElem?_set_self hi] at e
      cases e
      rw [List.getElem?_set_self hiσ]
      exact h
    · rw [List.getElem?_set_ne hj] at e ⊢
      exact S.sl j s' e
  · by_cases hj : i = j
    · subst hj
      rw [List.getElem?_set_self hi] at ej
      cases ej
      rw [List.getElem?_set_ne hjk] at ek
      rw [List.getElem?_set_self hiσ, List.getElem?_set_ne hjk]
      exact fun z => ha d rfl k e ek (Ne.symm hjk) z.symm
    · rw [List.getElem?_set_ne hj] at ej
      by_cases hk : i = k
      · subst hk
        rw [List.getElem?_set_self hi] at ek
        cases ek
        rw [List.getElem?_set_self hiσ, List.getElem?_set_ne hj]
        exact ha e rfl j d ej hjk
      · rw [List.getElem?_set_ne hk] at ek
        rw [List.getElem?_set_ne hj, List.getElem?_set_ne hk]
        exact S.ap j k d e hjk ej ek
/-- knowledge about slots is forgotten -/
inductive Wk : Env2 → Env2 → Prop
  | nil : Wk [] []
  | no {s : Sl} {a b : Env2} (h : Wk a b) : Wk (s :: a) (.no :: b)
  | eq {s : Sl} {a b : Env2} (h : Wk a b) : Wk (s :: a) (s :: b)
theorem Wk.get {a b : Env2} (w : Wk a b) : ∀ (i : Nat) (s : Sl), b[i]? = some s → s = .no ∨ a[i]? = some s := by
  induction w with
  | nil => intro i s h; simp at h
  | no _ ih =>
    intro i s h
    cases i with
    | zero => left; simpa using h.symm
    | succ i => simpa using ih i s (by simpa using h)
  | eq _ ih =>
    intro i s h
    cases i with
    | zero => right; simpa using h
    | succ i => simpa using ih i s (by simpa using h)
theorem Wk.len {a b : Env2} (w : Wk a b) : b.length = a.length := by
  induction w with
  | nil => rfl
  | no _ ih => simp [ih]
  | eq _ ih => simp [ih]
theorem Wk.refl : ∀ (a : Env2), Wk a a
  | [] => .nil
  | _ :: a => .eq (Wk.refl a)
theorem Sta.weak {r' : Env2} (S : Sta K F0 T F G H r σ) (w : Wk r r') : Sta K F0 T F G H r' σ := by
  refine ⟨S.bas, by rw [w.len]; exact S.len, fun i s e => ?_, fun i j d e hij ei ej => ?_⟩
  · rcases w.get i s e with z | z
    · subst z; trivial
    · exact S.sl i s z
  · rcases w.get i _ ei with z | z
    · cases z
    · rcases w.get j _ ej with y | y
      · cases y
      · exact S.ap i j d e hij z y
/-- an own slot is frozen -/
theorem Sta.frzSlot (S : Sta K F0 T F G H r σ) {i : Nat} {d : D} (hD : isDic d = false) (h : r[i]? = some (.own d)) : ∃ F', Ex F F' ∧ Sta K F0 T F' G H (r.set i (.sh d)) σ ∧ ∃ v, σ[i]? = some (some v) ∧ Rep K F' d v := by
  obtain ⟨p, h1, h2, h3, h4, h5⟩ := S.ownS h
  obtain ⟨o, ho⟩ := h2.there
  have hi : i < r.length := (List.getElem?_eq_some_iff.mp h).1
  have ef : Ex F (upd F p o) := Ex.new h3
  have rp : Rep K (upd F p o) d (.ref p) := by
    cases d with
    | lst ds =>
      obtain ⟨vs, q1, q2⟩ := h2
      rw [ho] at q1; cases q1
      exact ⟨p, vs, rfl, .inl upd_same, RepL.mono ef _ _ q2⟩
    | dic ks ds => cases hD
    | obj C ns ds => cases hD
    | slo C dx is ds => cases hD
    | xdo x b => cases hD
    | tab q => cases hD
    | kd w ks ds => cases hD
    | _ => exact h2.elim
  refine ⟨upd F p o, ef, ⟨S.bas.frz ho h3 h4 h5, by rw [List.length_set]; exact S.len, fun j s e => ?_, fun j k d' e' hjk ej ek => ?_⟩, .ref p, h1, rp⟩
  · by_cases hj : i = j
    · subst hj
      rw [List.getElem?_set_self hi] at e
      cases e
      exact ⟨_, h1, rp⟩
    · rw [List.getElem?_set_ne hj] at e
      have q := S.sl j s e
      cases s with
      | no => trivial
      | sh d' => obtain ⟨v, q1, q2⟩ := q; exact ⟨v, q1, Rep.mono ef _ _ q2⟩
      | own d' =>
        obtain ⟨p', q1, q2, q3, q4, q5⟩ := q
        have hpp : p' ≠ p := fun z => by
          subst z
          exact S.ap i j d d' hj h e (h1.trans q1.symm)
        exact ⟨p', q1, q2.mono ef fun _ z => z, by rw [upd_ne hpp]; exact q3, q4, q5⟩
  · have hj : i ≠ j := fun z => by
      subst z
      rw [List.getElem?_set_self hi] at ej; cases ej
    have hk : i ≠ k := fun z => by
      subst z
      rw [List.getElem?_set_self hi] at ek; cases ek
    rw [List.getElem?_set_ne hj] at ej
    rw [List.getElem?_set_ne hk] at ek
    exact S.ap j k d' e' hjk ej ek
/-- a fresh result is frozen -/
theorem Sta.frzRes (S : Sta K F0 T F G H r σ) {d : D} {v : V} (hD : isDic d = false) (h : ResOk K T F G H r σ (.fr d) v) : ∃ F', Ex F F' ∧ Sta K F0 T F' G H r σ ∧ Rep K F' d v := by
  obtain ⟨p, rfl, h2, h3, h4, h5, h6⟩ := h
  obtain ⟨o, ho⟩ := h2.there
  have ef : Ex F (upd F p o) := Ex.new h3
  have rp : Rep K (upd F p o) d (.ref p) := by
    cases d with
    | lst ds =>
      obtain ⟨vs, q1, q2⟩ := h2
      rw [ho] at q1; cases q1
      exact ⟨p, vs, rfl, .inl upd_same, RepL.mono ef _ _ q2⟩
    | dic ks ds => cases hD
    | obj C ns ds => cases hD
    | slo C dx is ds => cases hD
    | xdo x b => cases hD
    | tab q => cases hD
    | kd w ks ds => cases hD
    | _ => exact h2.elim
  refine ⟨upd F p o, ef, ⟨S.bas.frz ho h3 h4 h5, S.len, fun j s e => ?_, S.ap⟩, rp⟩
  have q := S.sl j s e
  cases s with
  | no => trivial
  | sh d' => obtain ⟨v, q1, q2⟩ := q; exact ⟨v, q1, Rep.mono ef _ _ q2⟩
  | own d' =>
    obtain ⟨p', q1, q2, q3, q4, q5⟩ := q
    have hpp : p' ≠ p := fun z => by
      subst z
      exact h6 j d' e q1
    exact ⟨p', q1, q2.mono ef fun _ z => z, by rw [upd_ne hpp]; exact q3, q4, q5⟩
/-- the view of a result -/
theorem Sta.view (S : Sta K F0 T F G H r σ) {x : Res} {v : V} {d : D} (h : ResOk K T F G H r σ x v) (e : vw r x = some d) : Vw K F H d v := by
  cases x with
  | sh d' => cases e; exact .inl h
  | fr d' =>
    have e' : (if isDic d' then none else some d') = some d := e
    split at e'
    · cases e'
    · cases e'; obtain ⟨p, h1, h2, _⟩ := h; exact .inr ⟨p, h1, h2⟩
  | pk i =>
    obtain ⟨h1, d', h2⟩ := h
    have e' : (match r[i]? with | some (.own d) => some d | some (.sh d) => some d | _ => none) = some d := e
    rw [h2] at e'
    cases e'
    obtain ⟨p, q1, q2, _⟩ := S.ownS h2
    rw [h1] at q1
    cases q1
    exact .inr ⟨p, rfl, q2⟩
theorem Sta.viewR (S : Sta K F0 T F G H r σ) {x : Res} {v : V} {d : D} (h : ResOk K T F G H r σ x v) (e : VwR r G x d) : Vw K F H d v := by
  rcases e with e | ⟨a, rfl, hG⟩
  · exact S.view h e
  · cases (show v = .ref a from h)
    exact .inr ⟨a, rfl, S.bas.gh _ _ hG⟩
end
def Run (X : Cx) (e : Expr) : TE := fun σ H Q => ∀ (pins : List (Addr × Obj)) (s : Shared), Inv X pins σ H s → wpAny (model X.prog X.w) X.A (eval e X.env) (EP X pins σ Q) X.xe s
def RunT (X : Cx) (e : Expr) : TT := fun σ H Q => ∀ (pins : List (Addr × Obj)) (s : Shared), Inv X pins σ H s → wpAny (model X.prog X.w) X.A (isTrue e X.env (eval e X.env)) (TP X pins σ Q) X.xe s
def RunW (X : Cx) (e : Expr) : TT := fun σ H Q => ∀ (whole : Sem Value) (pins : List (Addr × Obj)) (s : Shared), Inv X pins σ H s → wpAny (model X.prog X.w) X.A (isTrue e X.env whole) (TP X pins σ Q) X.xe s
def RunA (X : Cx) (es : List Expr) : TA := fun σ H Q => ∀ (pos : Pos) (pins : List (Addr × Obj)) (s : Shared), Inv X pins σ H s → wpAny (model X.prog X.w) X.A (spliced (backTo pos (starEach es X.env))) (AP X pins σ Q) X.xe s
def RunS (X : Cx) (st : Stmt) : TS := fun D σ H => ∀ (pins : List (Addr × Obj)) (s : Shared), Inv X pins σ H s → wpAny (model X.prog X.w) X.A (exec st X.env) (SP X pins D) X.xe s
def RunB (X : Cx) (st : List Stmt) : TS := fun D σ H => ∀ (pins : List (Addr × Obj)) (s : Shared), Inv X pins σ H s → wpAny (model X.prog X.w) X.A (execs st X.env) (SP X pins D) X.xe s
section
variable {X : Cx} {e : Expr} {es : List Expr} {st : Stmt} {sts : List Stmt} {σ : L2.St} {H : Hp}
theorem peR : PE X e (Run X e) := ⟨fun pins s _ _ _ I h => h pins s I⟩
theorem ptR : PT X e (RunT X e) := ⟨fun pins s _ _ _ I h => h pins s I⟩
theorem pwR : PW X e (RunW X e) := ⟨fun w pins s _ _ _ I h => h w pins s I⟩
theorem paR : PA X es (RunA X es) := ⟨fun pos pins s _ _ _ I h => h pos pins s I⟩
theorem psR : PS X st (RunS X st) := ⟨fun pins s _ _ _ I h => h pins s I⟩
theorem pbR : PSs X sts (RunB X sts) := ⟨fun pins s _ _ _ I h => h pins s I⟩
theorem Run.of {t : TE} {Q : VK} (h : PE X e t) (q : t σ H Q) : Run X e σ H Q := fun pins s I => h.run pins s σ H Q I q
theorem RunT.of {t : TT} {Q : Bool → Hp → Prop} (h : PT X e t) (q : t σ H Q) : RunT X e σ H Q := fun pins s I => h.run pins s σ H Q I q
theorem RunW.of {t : TT} {Q : Bool → Hp → Prop} (h : PW X e t) (q : t σ H Q) : RunW X e σ H Q := fun w pins s I => h.run w pins s σ H Q I q
theorem RunA.of {t : TA} {Q : List V → Hp → Prop} (h : PA X es t) (q : t σ H Q) : RunA X es σ H Q := fun pos pins s I => h.run pos pins s σ H Q I q
theorem RunS.of {t : TS} {D : Ends} (h : PS X st t) (q : t D σ H) : RunS X st D σ H := fun pins s I => h.run pins s σ H D I q
theorem RunB.of {t : TS} {D : Ends} (h : PSs X sts t) (q : t D σ H) : RunB X sts D σ H := fun pins s I => h.run pins s σ H D I q
theorem Run.mono {Q Q' : VK} (h : Run X e σ H Q) (k : ∀ v H', Q v H' → Q' v H') : Run X e σ H Q' := fun pins s I =>
  wpAny_mono (h pins s I) (fun _ _ ⟨v, H', I', r, q⟩ => ⟨v, H', I', r, k v H' q⟩) fun _ _ x => x
theorem RunT.mono {Q Q' : Bool → Hp → Prop} (h : RunT X e σ H Q) (k : ∀ v H', Q v H' → Q' v H') : RunT X e σ H Q' := fun pins s I =>
  wpAny_mono (h pins s I) (fun _ _ ⟨H', I', q⟩ => ⟨H', I', k _ H' q⟩) fun _ _ x => x
theorem RunA.mono {Q Q' : List V → Hp → Prop} (h : RunA X es σ H Q) (k : ∀ v H', Q v H' → Q' v H') : RunA X es σ H Q' := fun pos pins s I =>
  wpAny_mono (h pos pins s I) (fun _ _ ⟨vs, H', I', r, q⟩ => ⟨vs, H', I', r, k _ H' q⟩) fun _ _ x => x
theorem SP.mono {pins : List (Addr × Obj)} {D D' : Ends} {f : Flow} {s : Shared} (h : SP X pins D f s) (k1 : ∀ σ H, D.nx σ H → D'.nx σ H) (k2 : ∀ v H, D.rt v H → D'.rt v H) (k3 : ∀ σ H, D.bk σ H → D'.bk σ H) (k4 : ∀ σ H, D.ct σ H → D'.ct σ H) : SP X pins D' f s := by
  cases f with
  | next => obtain ⟨a, b, c, d⟩ := h; exact ⟨a, b, c, k1 _ _ d⟩
  | brk => obtain ⟨a, b, c, d⟩ := h; exact ⟨a, b, c, k3 _ _ d⟩
  | cont => obtain ⟨a, b, c, d⟩ := h; exact ⟨a, b, c, k4 _ _ d⟩
  | ret u => obtain ⟨v, a, b, c, r, d⟩ := h; exact ⟨v, a, b, c, r, k2 _ _ d⟩
theorem RunS.mono {D D' : Ends} (h : RunS X st D σ H) (k1 : ∀ σ H, D.nx σ H → D'.nx σ H) (k2 : ∀ v H, D.rt v H → D'.rt v H) (k3 : ∀ σ H, D.bk σ H → D'.bk σ H) (k4 : ∀ σ H, D.ct σ H → D'.ct σ H) : RunS X st D' σ H := fun pins s I =>
  wpAny_mono (h pins s I) (fun _ _ q => SP.mono q k1 k2 k3 k4) fun _ _ x => x
theorem RunB.mono {D D' : Ends} (h : RunB X sts D σ H) (k1 : ∀ σ H, D.nx σ H → D'.nx σ H) (k2 : ∀ v H, D.rt v H → D'.rt v H) (k3 : ∀ σ H, D.bk σ H → D'.bk σ H) (k4 : ∀ σ H, D.ct σ H → D'.ct σ H) : RunB X sts D' σ H := fun pins s I =>
  wpAny_mono (h pins s I) (fun _ _ q => SP.mono q k1 k2 k3 k4) fun _ _ x => x
end
structure Exn where
  cls : Value
  fs : List (Str × D)
structure Cy extends L2.Cx where
  F0 : Hp
  T : Hp
  QX : Exn → Env2 → GD → Prop
instance : Coe Cy L2.Cx := ⟨Cy.toCx⟩
instance : CoeHead Cy L2.Cx := ⟨Cy.toCx⟩
structure Lk (X : Cy) (F0 T : Hp) : Prop where
  t : Ex X.T T
  f : Ex X.F0 F0
  ft : ∀ a o, F0 a = some o → X.F0 a = some o ∨ X.T a = none
theorem none_of {A B : Hp} (e : Ex A B) {a : Addr} (h : B a = none) : A a = none := by
  cases q : A a with
  | none => rfl
  | some o => rw [e a o q] at h; cases h
theorem Lk.base {X : Cy} {F0 T F : Hp} {G : GD} {H : Hp} (lk : Lk X F0 T) (B : Bas X.K F0 T F G H) : Lk X F T :=
  ⟨lk.t, lk.f.trans B.ff, fun a o h => (B.ft a o h).elim (fun z => lk.ft a o z) fun z => .inr (none_of lk.t z)⟩
theorem Lk.ext {X : Cy} {F0 T T' : Hp} (lk : Lk X F0 T) (e : Ex T T') : Lk X F0 T' := ⟨lk.t.trans e, lk.f, lk.ft⟩
theorem Lk.bas {X : Cy} {K : PySem.W.Frag} {F0 T F : Hp} {G : GD} {H : Hp} (lk : Lk X F0 T) (B : Bas K F0 T F G H) : Bas K X.F0 X.T F G H :=
  ⟨lk.f.trans B.ff, fun a o h => (B.ft a o h).elim (fun z => lk.ft a o z) fun z => .inr (none_of lk.t z), B.fh, B.gh, B.fg, fun a o h => none_of lk.t (B.gt a o h), lk.t.trans B.tk⟩
theorem Lk.sta {X : Cy} {K : PySem.W.Frag} {F0 T F : Hp} {G : GD} {H : Hp} {r : Env2} {σ : L2.St} (lk : Lk X F0 T) (S : Sta K F0 T F G H r σ) : Sta K X.F0 X.T F G H r σ := by
  refine ⟨lk.bas S.bas, S.len, fun i s e => ?_, S.ap⟩
  have h := S.sl i s e
  cases s with
  | no => trivial
  | sh d => exact h
  | own d =>
    obtain ⟨p, h1, h2, h3, h4, h5⟩ := h
    exact ⟨p, h1, h2, h3, h4, none_of lk.t h5⟩
/-- an exception (its class, its dict) as data -/
def ExOk (K : PySem.W.Frag) (F : Hp) (cls : Value) (d : Option Addr) (x : Exn) : Prop :=
  x.cls = cls ∧ ((d = none ∧ x.fs = []) ∨ ∃ a vs, d = some a ∧ F a = some (.xd ((x.fs.map (·.1)).zip vs)) ∧ RepL K F (x.fs.map (·.2)) vs)
theorem ExOk.mono {K : PySem.W.Frag} {F F' : Hp} {cls : Value} {d : Option Addr} {x : Exn} (e : Ex F F') (h : ExOk K F cls d x) : ExOk K F' cls d x := by
  obtain ⟨h1, ⟨h2, h3⟩ | ⟨a, vs, h2, h3, h4⟩⟩ := h
  · exact ⟨h1, .inl ⟨h2, h3⟩⟩
  · exact ⟨h1, .inr ⟨a, vs, h2, e _ _ h3, RepL.mono e _ _ h4⟩⟩
/-- the wish of a context -/
def Cy.WX (X : Cy) : L2.WX := fun cls d σ H => ∃ r G F x, Sta X.K X.F0 X.T F G H r σ ∧ ExOk X.K F cls d x ∧ X.QX x r G
def Cy.Tk (X : Cy) : Prop := L2.Takes X.toCx X.WX
def PostE (K : PySem.W.Frag) (F0 T F : Hp) (σ : L2.St) (Q : Res → Env2 → GD → Prop) : VK := fun v H' =>
  ∃ x r' G' F', Ex F F' ∧ Sta K F0 T F' G' H' r' σ ∧ ResOk K T F' G' H' r' σ x v ∧ Q x r' G'
def WE (X : Cy) (e : Expr) (r : Env2) (G : GD) (Q : Res → Env2 → GD → Prop) : Prop :=
  ∀ (F0 T F H : Hp) (σ : L2.St), Lk X F0 T → Sta X.K F0 T F G H r σ → Run X e σ H (PostE X.K F0 T F σ Q)
def PostT (K : PySem.W.Frag) (F0 T F : Hp) (σ : L2.St) (Q : Bool → Env2 → GD → Prop) : Bool → Hp → Prop := fun b H' =>
  ∃ r' G' F', Ex F F' ∧ Sta K F0 T F' G' H' r' σ ∧ Q b r' G'
def WT (X : Cy) (e : Expr) (r : Env2) (G : GD) (Q : Bool → Env2 → GD → Prop) : Prop :=
  ∀ (F0 T F H : Hp) (σ : L2.St), Lk X F0 T → Sta X.K F0 T F G H r σ → RunT X e σ H (PostT X.K F0 T F σ Q)
def WW (X : Cy) (e : Expr) (r : Env2) (G : GD) (Q : Bool → Env2 → GD → Prop) : Prop :=
  ∀ (F0 T F H : Hp) (σ : L2.St), Lk X F0 T → Sta X.K F0 T F G H r σ → RunW X e σ H (PostT X.K F0 T F σ Q)
def PostA (K : PySem.W.Frag) (F0 T F : Hp) (σ : L2.St) (Q : List D → Env2 → GD → Prop) : List V → Hp → Prop := fun vs H' =>
  ∃ ds r' G' F', Ex F F' ∧ Sta K F0 T F' G' H' r' σ ∧ RepL K F' ds vs ∧ Q ds r' G'
def WA (X : Cy) (es : List Expr) (r : Env2) (G : GD) (Q : List D → Env2 → GD → Prop) : Prop :=
  ∀ (F0 T F H : Hp) (σ : L2.St), Lk X F0 T → Sta X.K F0 T F G H r σ → RunA X es σ H (PostA X.K F0 T F σ Q)
structure EndsD where
  nx : Env2 → GD → Prop
  rt : Res → GD → Prop
  bk : Env2 → GD → Prop := fun _ _ => False
  ct : Env2 → GD → Prop := fun _ _ => False
def PostN (K : PySem.W.Frag) (F0 T : Hp) (Q : Env2 → GD → Prop) : L2.St → Hp → Prop := fun σ' H' => ∃ r' G' F', Sta K F0 T F' G' H' r' σ' ∧ Q r' G'
def PostR (K : PySem.W.Frag) (F0 T : Hp) (Q : Res → GD → Prop) : VK := fun v H' => ∃ x G' F', Bas K F0 T F' G' H' ∧ RtOk K T F' G' H' x v ∧ Q x G'
def EndsD.at (K : PySem.W.Frag) (F0 T : Hp) (D : EndsD) : Ends := { nx := PostN K F0 T D.nx, rt := PostR K F0 T D.rt, bk := PostN K F0 T D.bk, ct := PostN K F0 T D.ct }
def WS (X : Cy) (st : Stmt) (r : Env2) (G : GD) (D : EndsD) : Prop :=
  ∀ (F0 T F H : Hp) (σ : L2.St), Lk X F0 T → Sta X.K F0 T F G H r σ → RunS X st (D.at X.K F0 T) σ H
def WB (X : Cy) (sts : List Stmt) (r : Env2) (G : GD) (D : EndsD) : Prop :=
  ∀ (F0 T F H : Hp) (σ : L2.St), Lk X F0 T → Sta X.K F0 T F G H r σ → RunB X sts (D.at X.K F0 T) σ H
/-- freezing a result -/
def fz (r : Env2) : Res → Option (D × Env2)
  | .sh d => some (d, r)
  | .fr d => if isDic d then none else some (d, r)
  | .pk i => match r[i]? with
    | some (.own d) => if isDic d then none else some (d, r.set i (.sh d))
    | _ => none
section
variable {X : Cy} {e a b c : Expr} {es : List Expr} {st : Stmt} {sts rest : List Stmt} {r : Env2} {G : GD} {pos : Pos}
theorem Sta.fz {K : PySem.W.Frag} {F0 T F : Hp} {G : GD} {H : Hp} {r r2 : Env2} {σ : L2.St} {x : Res} {v : V} {d : D} (S : Sta K F0 T F G H r σ) (h : ResOk K T F G H r σ x v) (e : fz r x = some (d, r2)) : ∃ F', Ex F F' ∧ Sta K F0 T F' G H r2 σ ∧ Rep K F' d v := by
  cases x with
  | sh d' => cases e; exact ⟨F, Ex.refl _, S, h⟩
  | fr d' =>
    have e' : (if isDic d' then none else some (d', r)) = some (d, r2) := e
    cases hD : isDic d' with
    | true => rw [hD] at e'; cases e'
    | false =>
      rw [hD] at e'
      cases e'
      exact S.frzRes hD h
  | pk i =>
    obtain ⟨h1, d', h2⟩ := h
    have e' : (match r[i]? with | some (.own d) => if isDic d then none else some (d, r.set i (.sh d)) | _ => none) = some (d, r2) := e
    rw [h2] at e'
    dsimp only at e'
    have hD : isDic d' = false := by
      cases hD : isDic d' with
      | true => rw [hD] at e'; cases e'
      | false => rfl
    rw [hD] at e'
    cases e'
    obtain ⟨F', k1, k2, v', k3, k4⟩ := S.frzSlot hD h2
    rw [h1] at k3
    cases k3
    exact ⟨F', k1, k2, k4⟩
theorem WE.mono {Q Q' : Res → Env2 → GD → Prop} (h : WE X e r G Q) (k : ∀ x r' G', Q x r' G' → Q' x r' G') : WE X e r G Q' := fun F0 T F H σ lk S =>
  (h F0 T F H σ lk S).mono fun _ _ ⟨x, r', G', F', a, b, c, q⟩ => ⟨x, r', G', F', a, b, c, k _ _ _ q⟩
theorem WT.mono {Q Q' : Bool → Env2 → GD → Prop} (h : WT X e r G Q) (k : ∀ x r' G', Q x r' G' → Q' x r' G') : WT X e r G Q' := fun F0 T F H σ lk S =>
  (h F0 T F H σ lk S).mono fun _ _ ⟨r', G', F', a, b, q⟩ => ⟨r', G', F', a, b, k _ _ _ q⟩
theorem WB.mono {D D' : EndsD} (h : WB X sts r G D) (k1 : ∀ r G, D.nx r G → D'.nx r G) (k2 : ∀ x G, D.rt x G → D'.rt x G) (k3 : ∀ r G, D.bk r G → D'.bk r G) (k4 : ∀ r G, D.ct r G → D'.ct r G) : WB X sts r G D' := fun F0 T F H σ lk S =>
  (h F0 T F H σ lk S).mono (fun _ _ ⟨r', G', F', a, q⟩ => ⟨r', G', F', a, k1 _ _ q⟩) (fun _ _ ⟨x, G', F', a, b, q⟩ => ⟨x, G', F', a, b, k2 _ _ q⟩) (fun _ _ ⟨r', G', F', a, q⟩ => ⟨r', G', F', a, k3 _ _ q⟩) (fun _ _ ⟨r', G', F', a, q⟩ => ⟨r', G', F', a, k4 _ _ q⟩)
theorem WB.weak {r' : Env2} {D : EndsD} (w : Wk r r') (h : WB X sts r' G D) : WB X sts r G D := fun F0 T F H σ lk S => h F0 T F H σ lk (S.weak w)
theorem we_const {v : V} {d : D} {Q : Res → Env2 → GD → Prop} (h : PE X e (tC v)) (hd : ∀ K F, Rep K F d v) (q : Q (.sh d) r G) : WE X e r G Q := fun F0 T F H σ lk S =>
  Run.of h ⟨.sh d, r, G, F, Ex.refl _, S, hd _ _, q⟩
theorem we_int {i : Int} {j} {Q : Res → Env2 → GD → Prop} (q : Q (.sh (.int i)) r G) : WE X (.Constant (.int i) j pos) r G Q := we_const (d := .int i) pe_int (fun _ _ => rfl) q
theorem we_bl {i : Bool} {j} {Q : Res → Env2 → GD → Prop} (q : Q (.sh (.bl i)) r G) : WE X (.Constant (.bool i) j pos) r G Q := we_const (d := .bl i) pe_bl (fun _ _ => rfl) q
theorem we_str {i : Str} {j} {Q : Res → Env2 → GD → Prop} (q : Q (.sh (.str i)) r G) : WE X (.Constant (.str i) j pos) r G Q := we_const (d := .str i) pe_str (fun _ _ => rfl) q
theorem we_non {j} {Q : Res → Env2 → GD → Prop} (q : Q (.sh .non) r G) : WE X (.Constant .none j pos) r G Q := we_const (d := .non) pe_non (fun _ _ => rfl) q
/-- what reading a slot gives -/
def rdS (r : Env2) (i : Nat) : Option Res := match r[i]? with
  | some (.sh d) => some (.sh d)
  | some (.own _) => some (.pk i)
  | _ => none
theorem we_var (i : Nat) {x : Str} {y : Res} {Q : Res → Env2 → GD → Prop} (hN : X.N[i]? = some x) (hv : Vis X.env.scope x) (hy : rdS r i = some y) (q : Q y r G) (hd : (x == ("__debug__" : Str)) = false := by decide) (hcd : (x == ("__classdict__" : Str)) = false := by decide) :
    WE X (.Name x pos) r G Q := fun F0 T F H σ lk S => by
  refine Run.of (pe_var hN hv hd hcd) ?_
  cases hr : r[i]? with
  | none => unfold rdS at hy; rw [hr] at hy; cases hy
  | some s =>
    unfold rdS at hy
    rw [hr] at hy
    cases s with
    | no => cases hy
    | sh d =>
      cases hy
      obtain ⟨v, h1, h2⟩ := S.slot hr
      exact ⟨v, h1, .sh d, r, G, F, Ex.refl _, S, h2, q⟩
    | own d =>
      cases hy
      obtain ⟨p, h1, h2⟩ := S.ownS hr
      exact ⟨.ref p, h1, .pk i, r, G, F, Ex.refl _, S, ⟨h1, d, hr⟩, q⟩
/-- a constant of the module -/
theorem we_globI {x : Str} {i : Int} {t : Tok} {Q : Res → Env2 → GD → Prop} (hg : Gl X x) (hm : X.mg x = some (.int i t)) (q : Q (.sh (.int i)) r G) (hd : (x == ("__debug__" : Str)) = false := by decide) : WE X (.Name x pos) r G Q := we_const (v := .int i) (d := .int i) (pe_glob hg hm ⟨t, rfl⟩ hd) (fun _ _ => rfl) q
theorem we_globS {x : Str} {i : Str} {t : Tok} {Q : Res → Env2 → GD → Prop} (hg : Gl X x) (hm : X.mg x = some (.str i t)) (q : Q (.sh (.str i)) r G) (hd : (x == ("__debug__" : Str)) = false := by decide) : WE X (.Name x pos) r G Q := we_const (v := .str i) (d := .str i) (pe_glob hg hm ⟨t, rfl⟩ hd) (fun _ _ => rfl) q
/-- a two-place operation on viewed data -/
def OpW (X : Cy) (f : Value → Value → Sem Value) (da db : D) (Q : Res → Prop) : Prop :=
  ∀ (F0 T F : Hp) (G : GD) (H : Hp) (r : Env2) (σ : L2.St) (va vb : V), Sta X.K F0 T F G H r σ → Vw X.K F H da va → Vw X.K F H db vb →
    ∃ rr : R2, OpR X f rr ∧ rr va vb H (fun v H' => ∃ x F', Ex F F' ∧ Sta X.K F0 T F' G H' r σ ∧ ResOk X.K T F' G H' r σ x v ∧ Q x)
def opU (X : Cy) (f : Value → Value → Sem Value) : R2 := fun x y H Q => ∃ rr : R2, OpR X f rr ∧ rr x y H Q
theorem opU_ok (f : Value → Value → Sem Value) : OpR X f (opU X f) := fun pins s σ H x y v u Q I rx ry ⟨rr, h1, h2⟩ => h1 pins s σ H x y v u Q I rx ry h2
/-- a held result, its view at a later state -/
theorem hold {K : PySem.W.Frag} {F0 T F : Hp} {G : GD} {H : Hp} {r : Env2} {σ : L2.St} {x : Res} {v : V} (S : Sta K F0 T F G H r σ) (h : ResOk K T F G H r σ x v) :
    ∃ F1, Ex F F1 ∧ Sta K F0 T F1 G H r σ ∧ ∀ (F2 : Hp) (G2 : GD) (H2 : Hp) (r2 : Env2) (d : D), Ex F1 F2 → Sta K F0 T F2 G2 H2 r2 σ → VwR r2 G2 x d → Vw K F2 H2 d v := by
  have red : ∀ (F2 : Hp) (G2 : GD) (H2 : Hp) (r2 : Env2) (d : D), Sta K F0 T F2 G2 H2 r2 σ → (vw r2 x = some d → Vw K F2 H2 d v) → VwR r2 G2 x d → Vw K F2 H2 d v := fun F2 G2 H2 r2 d S2 k e => by
    rcases e with e | ⟨a, rfl, hG⟩
    · exact k e
    · cases (show v = .ref a from h)
      exact .inr ⟨a, rfl, S2.bas.gh _ _ hG⟩
  cases x with
  | sh d => exact ⟨F, Ex.refl _, S, fun F2 G2 H2 r2 d' ex S2 e => red F2 G2 H2 r2 d' S2 (fun e => by cases e; exact .inl (Rep.mono ex _ _ h)) e⟩
  | fr d =>
    cases hD : isDic d with
    | true =>
      refine ⟨F, Ex.refl _, S, fun F2 G2 H2 r2 d' ex S2 e => red F2 G2 H2 r2 d' S2 (fun e => ?_) e⟩
      have e' : (if isDic d then none else some d) = some d' := e
      rw [hD] at e'; cases e'
    | false =>
      obtain ⟨F1, k1, k2, k3⟩ := S.frzRes hD h
      refine ⟨F1, k1, k2, fun F2 G2 H2 r2 d' ex S2 e => red F2 G2 H2 r2 d' S2 (fun e => ?_) e⟩
      have e' : (if isDic d then none else some d) = some d' := e
      rw [hD] at e'; cases e'
      exact .inl (Rep.mono ex _ _ k3)
  | pk i =>
    refine ⟨F, Ex.refl _, S, fun F2 G2 H2 r2 d' ex S2 e => red F2 G2 H2 r2 d' S2 (fun e => ?_) e⟩
    obtain ⟨h1, d, h2⟩ := h
    have e' : (match r2[i]? with | some (.own d) => some d | some (.sh d) => some d | _ => none) = some d' := e
    cases hr : r2[i]? with
    | none => rw [hr] at e'; cases e'
    | some s =>
      rw [hr] at e'
      cases s with
      | no => cases e'
      | sh d2 =>
        cases e'
        obtain ⟨v', q1, q2⟩ := S2.slot hr
        rw [h1] at q1; cases q1
        exact .inl q2
      | own d2 =>
        cases e'
        obtain ⟨p, q1, q2, _⟩ := S2.ownS hr
        rw [h1] at q1; cases q1
        exact .inr ⟨p, rfl, q2⟩
/-- two operands, then an operation -/
theorem two {f : Value → Value → Sem Value} {Q : Res → Env2 → GD → Prop} {F0 T F H : Hp} {σ : L2.St} (lk : Lk X F0 T) (S : Sta X.K F0 T F G H r σ)
    (h : WE X a r G fun x r1 G1 => WE X b r1 G1 fun y r2 G2 => ∃ da db, VwR r2 G2 x da ∧ VwR r2 G2 y db ∧ OpW X f da db fun z => Q z r2 G2) :
    tOp (opU X f) (Run X a) (Run X b) σ H (PostE X.K F0 T F σ Q) := by
  refine (h F0 T F H σ lk S).mono fun va H1 ⟨x, r1, G1, F1, e1, S1, k1, h1⟩ => ?_
  obtain ⟨F1', e1', S1', hv⟩ := hold S1 k1
  refine (h1 F0 T F1' H1 σ lk S1').mono fun vb H2 ⟨y, r2, G2, F2, e2, S2, k2, da, db, q1, q2, q3⟩ => ?_
  obtain ⟨rr, h3, h4⟩ := q3 F0 T F2 G2 H2 r2 σ va vb S2 (hv F2 G2 H2 r2 da e2 S2 q1) (S2.viewR k2 q2)
  have post : (fun v H' => ∃ z F', Ex F2 F' ∧ Sta X.K F0 T F' G2 H' r2 σ ∧ ResOk X.K T F' G2 H' r2 σ z v ∧ Q z r2 G2) = (fun v H' => ∃ z F', Ex F2 F' ∧ Sta X.K F0 T F' G2 H' r2 σ ∧ ResOk X.K T F' G2 H' r2 σ z v ∧ Q z r2 G2) := rfl
  refine ⟨fun u w H Q' => rr u w H (fun v H' => ∃ z F', Ex F2 F' ∧ Sta X.K F0 T F' G2 H' r2 σ ∧ ResOk X.K T F' G2 H' r2 σ z v ∧ Q z r2 G2) ∧ ∀ v H', (∃ z F', Ex F2 F' ∧ Sta X.K F0 T F' G2 H' r2 σ ∧ ResOk X.K T F' G2 H' r2 σ z v ∧ Q z r2 G2) → Q' v H', fun pins s σ H x y v u Q' I rx ry ⟨q, m⟩ => ?_, h4, fun v H' ⟨z, F', m1, m2, m3, m4⟩ => ⟨z, r2, G2, F', ((e1.trans e1').trans e2).trans m1, m2, m3, m4⟩⟩
  exact wpAny_mono (h3 pins s σ H x y v u _ I rx ry q) (fun _ _ ⟨v, H', I', rl, q⟩ => ⟨v, H', I', rl, m v H' q⟩) fun _ _ x => x
theorem we_bin {op : Operator} {Q : Res → Env2 → GD → Prop}
    (h : WE X a r G fun x r1 G1 => WE X b r1 G1 fun y r2 G2 => ∃ da db, VwR r2 G2 x da ∧ VwR r2 G2 y db ∧ OpW X (binaryOp op) da db fun z => Q z r2 G2) : WE X (.BinOp a op b pos) r G Q :=
  fun _ _ _ _ _ lk S => Run.of (pe_op (opU_ok _) peR peR) (two lk S h)
theorem we_cmp {op : CmpOp} {Q : Res → Env2 → GD → Prop} (hm : behindInMarks op b = false)
    (h : WE X a r G fun x r1 G1 => WE X b r1 G1 fun y r2 G2 => ∃ da db, VwR r2 G2 x da ∧ VwR r2 G2 y db ∧ OpW X (compareOp op) da db fun z => Q z r2 G2) : WE X (.Compare a [op] [b] pos) r G Q :=
  fun _ _ _ _ _ lk S => Run.of (pe_cmpR (opU_ok _) peR peR hm) (two lk S h)
/-- the result is a truth value -/
def isB (Q : Bool → Env2 → GD → Prop) : Res → Env2 → GD → Prop := fun x r G => ∃ c, x = .sh (.bl c) ∧ Q c r G
theorem postB {K : PySem.W.Frag} {F0 T F : Hp} {σ : L2.St} {Q : Bool → Env2 → GD → Prop} {v : V} {H' : Hp} (h : PostE K F0 T F σ (isB Q) v H') : ∃ c, v = .bl c ∧ PostT K F0 T F σ Q c H' := by
  obtain ⟨x, r', G', F', k1, k2, k3, c, rfl, k4⟩ := h
  exact ⟨c, k3, r', G', F', k1, k2, k4⟩
theorem wt_cmp {op : CmpOp} {Q : Bool → Env2 → GD → Prop} (hm : behindInMarks op b = false)
    (h : WE X a r G fun x r1 G1 => WE X b r1 G1 fun y r2 G2 => ∃ da db, VwR r2 G2 x da ∧ VwR r2 G2 y db ∧ OpW X (compareOp op) da db fun z => isB Q z r2 G2) : WT X (.Compare a [op] [b] pos) r G Q :=
  fun F0 T F H σ lk S => RunT.of (pt_cmpR (opU_ok _) peR peR hm) (by
    have q := two (Q := isB Q) lk S h
    refine Run.mono q fun va H1 q1 => Run.mono q1 fun vb H2 ⟨rr, h3, h4⟩ => ⟨fun u w H Q' => rr u w H (PostE X.K F0 T F σ (isB Q)) ∧ ∀ v H', PostE X.K F0 T F σ (isB Q) v H' → Q' v H', fun pins s σ H x y v u Q' I rx ry ⟨q, m⟩ => ?_, h4, fun v H' z => postB z⟩
    exact wpAny_mono (h3 pins s σ H x y v u _ I rx ry q) (fun _ _ ⟨v, H', I', rl, q⟩ => ⟨v, H', I', rl, m v H' q⟩) fun _ _ x => x)
/-- a value as a test -/
theorem wt_val {Q : Bool → Env2 → GD → Prop} (he : ∀ whole, isTrue e X.env whole = (do let v ← whole; standAt e.pos; holding [v] (truthy v))) (h : WE X e r G (isB Q)) : WT X e r G Q :=
  fun F0 T F H σ lk S => RunT.of (pt_val peR he) ((h F0 T F H σ lk S).mono fun v H' q => postB q)
theorem wt_not {Q : Bool → Env2 → GD → Prop} (h : WT X a r G fun c => Q (!c)) : WT X (.UnaryOp .Not a pos) r G Q :=
  fun F0 T F H σ lk S => RunT.of (pt_not ptR) (h F0 T F H σ lk S)
theorem wt_w {Q : Bool → Env2 → GD → Prop} (h : WW X e r G Q) : WT X e r G Q := fun F0 T F H σ lk S pins s I => h F0 T F H σ lk S _ pins s I
theorem ww_and1 {Q : Bool → Env2 → GD → Prop} (h : WT X a r G Q) : WW X (.BoolOp .And [a] pos) r G Q := fun F0 T F H σ lk S => RunW.of (pw_and1 ptR) (h F0 T F H σ lk S)
theorem ww_or1 {Q : Bool → Env2 → GD → Prop} (h : WT X a r G Q) : WW X (.BoolOp .Or [a] pos) r G Q := fun F0 T F H σ lk S => RunW.of (pw_or1 ptR) (h F0 T F H σ lk S)
theorem ww_and {Q : Bool → Env2 → GD → Prop} (h : WT X a r G fun c r1 G1 => (c = true → WW X (.BoolOp .And (b :: es) pos) r1 G1 Q) ∧ (c = false → Q false r1 G1)) : WW X (.BoolOp .And (a :: b :: es) pos) r G Q := fun F0 T F H σ lk S =>
  RunW.of (pw_and ptR pwR) ((h F0 T F H σ lk S).mono fun c H1 ⟨r1, G1, F1, e1, S1, q1, q2⟩ => by
    cases c with
    | true => rw [if_pos rfl]; exact fun w pins s I => wpAny_mono (q1 rfl F0 T F1 H1 σ lk S1 w pins s I) (fun _ _ ⟨H', I', r', G', F', k1, k2, k3⟩ => ⟨H', I', r', G', F', e1.trans k1, k2, k3⟩) fun _ _ x => x
    | false => rw [if_neg Bool.false_ne_true]; exact ⟨r1, G1, F1, e1, S1, q2 rfl⟩)
theorem ww_or {Q : Bool → Env2 → GD → Prop} (h : WT X a r G fun c r1 G1 => (c = false → WW X (.BoolOp .Or (b :: es) pos) r1 G1 Q) ∧ (c = true → Q true r1 G1)) : WW X (.BoolOp .Or (a :: b :: es) pos) r G Q := fun F0 T F H σ lk S =>
  RunW.of (pw_or ptR pwR) ((h F0 T F H σ lk S).mono fun c H1 ⟨r1, G1, F1, e1, S1, q1, q2⟩ => by
    cases c with
    | true => rw [if_pos rfl]; exact ⟨r1, G1, F1, e1, S1, q2 rfl⟩
    | false => rw [if_neg Bool.false_ne_true]; exact fun w pins s I => wpAny_mono (q1 rfl F0 T F1 H1 σ lk S1 w pins s I) (fun _ _ ⟨H', I', r', G', F', k1, k2, k3⟩ => ⟨H', I', r', G', F', e1.trans k1, k2, k3⟩) fun _ _ x => x)
/-- and, or, not as values (truth values) -/
theorem PostE.ext {K : PySem.W.Frag} {F0 T F F1 : Hp} {σ : L2.St} {Q : Res → Env2 → GD → Prop} (e : Ex F F1) {v : V} {H : Hp} (h : PostE K F0 T F1 σ Q v H) : PostE K F0 T F σ Q v H := by
  obtain ⟨x, r', G', F', k1, k2⟩ := h
  exact ⟨x, r', G', F', e.trans k1, k2⟩
theorem we_one {op} {Q : Res → Env2 → GD → Prop} (h : WE X a r G Q) : WE X (.BoolOp op [a] pos) r G Q := fun F0 T F H σ lk S => Run.of (pe_one peR) (h F0 T F H σ lk S)
theorem we_and {Q : Res → Env2 → GD → Prop} (h : WE X a r G (isB fun c r1 G1 => (c = true → WE X (.BoolOp .And (b :: es) pos) r1 G1 Q) ∧ (c = false → Q (.sh (.bl false)) r1 G1))) : WE X (.BoolOp .And (a :: b :: es) pos) r G Q := fun F0 T F H σ lk S =>
  Run.of (pe_and peR peR) ((h F0 T F H σ lk S).mono fun v H1 q => by
    obtain ⟨c, rfl, r1, G1, F1, e1, S1, q1, q2⟩ := postB q
    refine ⟨c, rfl, ?_⟩
    cases c with
    | true => rw [if_pos rfl]; exact (q1 rfl F0 T F1 H1 σ lk S1).mono fun _ _ z => z.ext e1
    | false => rw [if_neg Bool.false_ne_true]; exact ⟨.sh (.bl false), r1, G1, F1, e1, S1, rfl, q2 rfl⟩)
theorem we_not {Q : Res → Env2 → GD → Prop} (h : WE X a r G (isB fun c r1 G1 => Q (.sh (.bl (!c))) r1 G1)) : WE X (.UnaryOp .Not a pos) r G Q := fun F0 T F H σ lk S =>
  Run.of (pe_not peR) ((h F0 T F H σ lk S).mono fun v H1 q => by
    obtain ⟨c, rfl, r1, G1, F1, e1, S1, q1⟩ := postB q
    exact ⟨c, rfl, .sh (.bl (!c)), r1, G1, F1, e1, S1, rfl, q1⟩)
theorem we_ifExp {Q : Res → Env2 → GD → Prop} (h : WT X c r G fun d r1 G1 => (d = true → WE X a r1 G1 Q) ∧ (d = false → WE X b r1 G1 Q)) : WE X (.IfExp c a b pos) r G Q := fun F0 T F H σ lk S =>
  Run.of (pe_ifExp ptR peR peR) ((h F0 T F H σ lk S).mono fun d H1 ⟨r1, G1, F1, e1, S1, q1, q2⟩ => by
    cases d with
    | true => rw [if_pos rfl]; exact (q1 rfl F0 T F1 H1 σ lk S1).mono fun _ _ z => z.ext e1
    | false => rw [if_neg Bool.false_ne_true]; exact (q2 rfl F0 T F1 H1 σ lk S1).mono fun _ _ z => z.ext e1)
theorem wa_nil {Q : List D → Env2 → GD → Prop} (q : Q [] r G) : WA X [] r G Q := fun F0 T F H σ lk S => RunA.of pa_nil ⟨[], r, G, F, Ex.refl _, S, rfl, q⟩
theorem PostA.ext {K : PySem.W.Frag} {F0 T F F1 : Hp} {σ : L2.St} {Q : List D → Env2 → GD → Prop} (e : Ex F F1) {v : List V} {H : Hp} (h : PostA K F0 T F1 σ Q v H) : PostA K F0 T F σ Q v H := by
  obtain ⟨x, r', G', F', k1, k2⟩ := h
  exact ⟨x, r', G', F', e.trans k1, k2⟩
theorem wa_cons {Q : List D → Env2 → GD → Prop} (h : WE X e r G fun x r1 G1 => ∃ d r2, fz r1 x = some (d, r2) ∧ WA X es r2 G1 fun ds r3 G3 => Q (d :: ds) r3 G3)
    (hs : starEach (e :: es) X.env = (false, eval e X.env) :: starEach es X.env := by rfl) : WA X (e :: es) r G Q := fun F0 T F H σ lk S =>
  RunA.of (pa_cons peR paR hs) ((h F0 T F H σ lk S).mono fun v H1 ⟨x, r1, G1, F1, e1, S1, k1, d, r2, q1, q2⟩ => by
    obtain ⟨F2, e2, S2, rp⟩ := S1.fz k1 q1
    refine (q2 F0 T F2 H1 σ lk S2).mono fun vs H3 ⟨ds, r3, G3, F3, e3, S3, k3, q3⟩ => ?_
    exact ⟨d :: ds, r3, G3, F3, (e1.trans e2).trans e3, S3, ⟨v, vs, rfl, Rep.mono e3 _ _ rp, k3⟩, q3⟩)
/-- how many items a display may have -/
abbrev LIM : Nat := 16777216
theorem lim_ok {n : Nat} (h : n ≤ LIM) : n ≤ sizeLine := by rw [sizeLine_eq]; exact h
theorem lim_of {n : Nat} (h : n ≤ sizeLine) : n ≤ LIM := by rw [sizeLine_eq] at h; exact h
theorem lim_lt {n : Nat} (h : n < LIM) : n < sizeLine := by rw [sizeLine_eq]; exact h
/-- what lies in a heap is not too long -/
def BL (K : PySem.W.Frag) (H : Hp) : Prop := (∀ a xs, SqL K H a xs → xs.length ≤ LIM) ∧ (∀ a xs, SqT K H a xs → xs.length ≤ LIM) ∧ ∀ a kvs, Rd H a (.dK kvs) → kvs.length ≤ LIM
theorem bl_of {X : Cx} {pins : List (Addr × Obj)} {σ : L2.St} {H : Hp} {s : Shared} (I : Inv X pins σ H s) : BL X.K H := by
  refine ⟨fun a xs h => ?_, fun a xs h => ?_, fun a kvs h => ?_⟩
  · obtain ⟨_, _, _, z⟩ := I.list h
    exact lim_of z
  · obtain ⟨_, _, _, z⟩ := I.tuple h
    exact lim_of z
  · rcases h with h | ⟨o, h⟩
    · exact lim_of (I.hok _ _ h).1
    · exact lim_of (I.hok _ _ h).2.1
theorem Run.bl {X : Cx} {e : Expr} {σ : L2.St} {H : Hp} {Q : VK} (h : Run X e σ H Q) : Run X e σ H fun v H' => BL X.K H' ∧ Q v H' := fun pins s I =>
  wpAny_mono (h pins s I) (fun _ _ ⟨v, H', I', r, q⟩ => ⟨v, H', I', r, bl_of I', q⟩) fun _ _ x => x
theorem we_tup {k} {Q : Res → Env2 → GD → Prop} (h : WA X es r G fun ds r1 G1 => ds.length ≤ LIM ∧ Q (.sh (.tup ds)) r1 G1) : WE X (.Tuple es k pos) r G Q := fun F0 T F H σ lk S =>
  Run.of (pe_tup paR) ((h F0 T F H σ lk S).mono fun vs H1 ⟨ds, r1, G1, F1, e1, S1, k1, hl, q⟩ => ⟨by rw [k1.length]; exact lim_ok hl, fun p hp => by
    have ef : Ex F1 (upd F1 p (.tup vs)) := Ex.new (S1.bas.freshF hp).1
    exact ⟨.sh (.tup ds), r1, G1, upd F1 p (.tup vs), e1.trans ef, S1.newF hp, ⟨p, vs, rfl, .inl (.inl upd_same), RepL.mono ef _ _ k1⟩, q⟩⟩)
theorem we_lst {Q : Res → Env2 → GD → Prop} (h : WA X es r G fun ds r1 G1 => ds.length ≤ LIM ∧ Q (.fr (.lst ds)) r1 G1) : WE X (.List es pos) r G Q := fun F0 T F H σ lk S =>
  Run.of (pe_lst paR) ((h F0 T F H σ lk S).mono fun vs H1 ⟨ds, r1, G1, F1, e1, S1, k1, hl, q⟩ => ⟨by rw [k1.length]; exact lim_ok hl, fun p hp => by
    obtain ⟨h1, h2, h3⟩ := S1.bas.freshF hp
    exact ⟨.fr (.lst ds), r1, G1, F1, e1, S1.newH hp, ⟨p, rfl, ⟨vs, upd_same, k1⟩, h1, h2, h3, S1.freshR hp⟩, q⟩⟩)
end
section
variable {X : Cy} {e a b c : Expr} {es : List Expr} {st : Stmt} {sts rest : List Stmt} {r : Env2} {G : GD} {pos : Pos} {Q : Res → Prop}
theorem opw_flat {f : Value → Value → Sem Value} {da db d : D} {v : V} (hd : ∀ K F, Rep K F d v) (h : ∀ F H va vb, Ex F H → Vw X.K F H da va → Vw X.K F H db vb → ∃ rr, OpR X f rr ∧ ∀ P : VK, P v H → rr va vb H P) (q : Q (.sh d)) : OpW X f da db Q :=
  fun F0 T F G H r σ va vb S h1 h2 => by
    obtain ⟨rr, k1, k2⟩ := h F H va vb S.bas.fh h1 h2
    exact ⟨rr, k1, k2 _ ⟨.sh d, F, Ex.refl _, S, hd _ _, q⟩⟩
theorem opw_add {i j : Int} (q : Q (.sh (.int (i + j)))) : OpW X (binaryOp .Add) (.int i) (.int j) Q :=
  opw_flat (d := .int (i + j)) (v := .int (i + j)) (fun _ _ => rfl) (fun F H va vb _ h1 h2 => ⟨_, op_add, fun P p => ⟨i, j, h1.int, h2.int, p⟩⟩) q
theorem opw_sub {i j : Int} (q : Q (.sh (.int (i - j)))) : OpW X (binaryOp .Sub) (.int i) (.int j) Q :=
  opw_flat (d := .int (i - j)) (v := .int (i - j)) (fun _ _ => rfl) (fun F H va vb _ h1 h2 => ⟨_, op_sub, fun P p => ⟨i, j, h1.int, h2.int, p⟩⟩) q
theorem opw_mul {i j : Int} (hc : (-(2 ^ 64) < i ∧ i < 2 ^ 64) ∨ (-(2 ^ 64) < j ∧ j < 2 ^ 64)) (q : Q (.sh (.int (i * j)))) : OpW X (binaryOp .Mult) (.int i) (.int j) Q :=
  opw_flat (d := .int (i * j)) (v := .int (i * j)) (fun _ _ => rfl) (fun F H va vb _ h1 h2 => ⟨_, op_mul, fun P p => ⟨i, j, h1.int, h2.int, hc, p⟩⟩) q
theorem opw_fdiv {i j : Int} (hc : 0 < j ∧ j < 1073741824) (q : Q (.sh (.int (i / j)))) : OpW X (binaryOp .FloorDiv) (.int i) (.int j) Q :=
  opw_flat (d := .int (i / j)) (v := .int (i / j)) (fun _ _ => rfl) (fun F H va vb _ h1 h2 => ⟨_, op_fdiv, fun P p => ⟨i, j, h1.int, h2.int, hc, p⟩⟩) q
theorem opw_mod {i j : Int} (hc : 0 < j) (q : Q (.sh (.int (i % j)))) : OpW X (binaryOp .Mod) (.int i) (.int j) Q :=
  opw_flat (d := .int (i % j)) (v := .int (i % j)) (fun _ _ => rfl) (fun F H va vb _ h1 h2 => ⟨_, op_mod, fun P p => ⟨i, j, h1.int, h2.int, hc, p⟩⟩) q
theorem opw_pow {i j : Int} (hc : 0 ≤ j ∧ j ≤ 1000000 ∧ i.natAbs < 2 ^ 64) (q : Q (.sh (.int (i ^ j.toNat)))) : OpW X (binaryOp .Pow) (.int i) (.int j) Q :=
  opw_flat (d := .int (i ^ j.toNat)) (v := .int (i ^ j.toNat)) (fun _ _ => rfl) (fun F H va vb _ h1 h2 => ⟨_, op_pow, fun P p => ⟨i, j, h1.int, h2.int, hc, p⟩⟩) q
theorem opw_lt {i j : Int} (q : Q (.sh (.bl (decide (i < j))))) : OpW X (compareOp .Lt) (.int i) (.int j) Q :=
  opw_flat (d := .bl (decide (i < j))) (v := .bl (decide (i < j))) (fun _ _ => rfl) (fun F H va vb _ h1 h2 => ⟨_, op_lt, fun P p => ⟨i, j, h1.int, h2.int, p⟩⟩) q
theorem opw_le {i j : Int} (q : Q (.sh (.bl (decide (i ≤ j))))) : OpW X (compareOp .LtE) (.int i) (.int j) Q :=
  opw_flat (d := .bl (decide (i ≤ j))) (v := .bl (decide (i ≤ j))) (fun _ _ => rfl) (fun F H va vb _ h1 h2 => ⟨_, op_le, fun P p => ⟨i, j, h1.int, h2.int, p⟩⟩) q
theorem opw_ge {i j : Int} (q : Q (.sh (.bl (decide (j ≤ i))))) : OpW X (compareOp .GtE) (.int i) (.int j) Q :=
  opw_flat (d := .bl (decide (j ≤ i))) (v := .bl (decide (j ≤ i))) (fun _ _ => rfl) (fun F H va vb _ h1 h2 => ⟨_, op_ge, fun P p => ⟨i, j, h1.int, h2.int, p⟩⟩) q
theorem vint_eq (i j : Int) : decide (V.int i = V.int j) = decide (i = j) := by
  by_cases h : i = j
  · subst h; simp
  · simp [h]
theorem opw_eqI {i j : Int} (q : Q (.sh (.bl (decide (i = j))))) : OpW X (compareOp .Eq) (.int i) (.int j) Q :=
  opw_flat (d := .bl (decide (i = j))) (v := .bl (decide (i = j))) (fun _ _ => rfl) (fun F H va vb _ h1 h2 => ⟨_, op_eq, fun P p => by cases h1.int; cases h2.int; exact ⟨rfl, by rw [vint_eq]; exact p⟩⟩) q
theorem opw_neI {i j : Int} (q : Q (.sh (.bl (!decide (i = j))))) : OpW X (compareOp .NotEq) (.int i) (.int j) Q :=
  opw_flat (d := .bl (!decide (i = j))) (v := .bl (!decide (i = j))) (fun _ _ => rfl) (fun F H va vb _ h1 h2 => ⟨_, op_ne, fun P p => by cases h1.int; cases h2.int; exact ⟨rfl, by rw [vint_eq]; exact p⟩⟩) q
/-- is None -/
def isNon : D → Bool
  | .non => true
  | _ => false
theorem vw_non {K : PySem.W.Frag} {F H : Hp} {d : D} {v : V} (h : Vw K F H d v) : decide (v = .non) = isNon d := by
  rcases h with h | ⟨p, rfl, h⟩
  · cases d with
    | non => cases (show v = .non from h); rfl
    | bl b => cases (show v = .bl b from h); rfl
    | int b => cases (show v = .int b from h); rfl
    | str b => cases (show v = .str b from h); rfl
    | tup b => obtain ⟨a, vs, rfl, _⟩ := h; rfl
    | lst b => obtain ⟨a, vs, rfl, _⟩ := h; rfl
    | dic ks b => obtain ⟨a, o, vs, rfl, _⟩ := h; rfl
    | ins C b => obtain ⟨a, dx, vs, rfl, _⟩ := h; rfl
    | adr b => cases (show v = .ref b from h); rfl
    | obj _ _ _ => exact h.elim
    | slo _ _ _ _ => exact h.elim
    | xdo _ _ => exact h.elim
    | tab _ => exact h.elim
    | hob _ _ => obtain ⟨rfl, _⟩ := h; rfl
    | kd _ _ _ => obtain ⟨a, ob, es, rfl, _⟩ := h; rfl
    | scr ns => obtain ⟨a, rfl, _⟩ := h; rfl
  · cases d with
    | lst b => rfl
    | dic ks b => rfl
    | obj _ _ _ => rfl
    | slo _ _ _ _ => rfl
    | xdo _ _ => rfl
    | tab _ => rfl
    | kd _ _ _ => rfl
    | _ => exact h.elim
theorem opw_isN {d : D} (q : Q (.sh (.bl (isNon d)))) : OpW X (compareOp .Is) d .non Q :=
  opw_flat (d := .bl (isNon d)) (v := .bl (isNon d)) (fun _ _ => rfl) (fun F H va vb _ h1 h2 => ⟨_, op_isN, fun P p => ⟨h2.non, by rw [vw_non h1]; exact p⟩⟩) q
theorem opw_notN {d : D} (q : Q (.sh (.bl (!isNon d)))) : OpW X (compareOp .IsNot) d .non Q :=
  opw_flat (d := .bl (!isNon d)) (v := .bl (!isNon d)) (fun _ _ => rfl) (fun F H va vb _ h1 h2 => ⟨_, op_notN, fun P p => ⟨h2.non, by rw [vw_non h1]; exact p⟩⟩) q
/-- lists and tuples joined -/
theorem lst_of {X : Cx} {pins : List (Addr × Obj)} {σ : L2.St} {H : Hp} {s : Shared} {a : Addr} {xs : List V} (I : Inv X pins σ H s) (h : Rd H a (.lst xs)) : xs.length ≤ sizeLine ∧ ∃ (its : List Value) (n : Nat), Vals xs its ∧ s.heap.get? a = some { cls := .type "list", data := .seq its.toArray n } := by
  rcases h with h | ⟨o, h⟩
  · exact I.hok _ _ h
  · exact (I.hok _ _ h).2
def rCatR : R2 := fun x y H Q => ∃ l b xs zs, x = .ref l ∧ y = .ref b ∧ Rd H l (.lst xs) ∧ Rd H b (.lst zs) ∧ xs.length + zs.length ≤ sizeLine ∧ ∀ p, H p = none → Q (.ref p) (upd H p (.lst (xs ++ zs)))
theorem op_catR {X : Cx} : OpR X (binaryOp .Add) rCatR := by
  intro pins s σ H x y v u Q I rx ry h
  obtain ⟨l, b, xs, zs, rfl, rfl, hH, hB, hz, q⟩ := h
  cases rx
  cases ry
  obtain ⟨z, its, n, r, e⟩ := lst_of I hH
  obtain ⟨z2, its2, n2, r2, e2⟩ := lst_of I hB
  have hl := r.length
  have hl2 := r2.length
  refine PySem.P.add_list e e2 ?_ (by rw [List.size_toArray, List.size_toArray]; omega)
  have ea : its.toArray ++ its2.toArray = (its ++ its2).toArray := by simp
  rw [ea]
  exact ⟨.ref _, _, I.lnew (t' := s.toks) (r.append r2) (by rw [List.length_append]; omega), rfl, q _ I.fresh⟩
theorem opw_cat {xs ys : List D} (hl : xs.length + ys.length ≤ LIM) (q : Q (.fr (.lst (xs ++ ys)))) : OpW X (binaryOp .Add) (.lst xs) (.lst ys) Q :=
  fun F0 T F G H r σ va vb S h1 h2 => by
    obtain ⟨p1, vs, rfl, k1, k2⟩ := h1.lst S.bas.fh
    obtain ⟨p2, us, rfl, k3, k4⟩ := h2.lst S.bas.fh
    exact ⟨_, op_catR, p1, p2, vs, us, rfl, rfl, k1, k3, by rw [k2.length, k4.length]; exact lim_ok hl, fun p hp => by
      obtain ⟨f1, f2, f3⟩ := S.bas.freshF hp
      exact ⟨.fr (.lst (xs ++ ys)), F, Ex.refl _, S.newH hp, ⟨p, rfl, ⟨vs ++ us, upd_same, k2.append k4⟩, f1, f2, f3, S.freshR hp⟩, q⟩⟩
mutual
def toP : D → PyData
  | .non => .none
  | .bl b => .bool b
  | .int i => .int i
  | .str x => .str x
  | .tup ds => .tuple (toPs ds)
  | .lst ds => .list (toPs ds)
  | _ => .none
def toPs : List D → List PyData
  | [] => []
  | d :: ds => toP d :: toPs ds
end
def okD : Nat → D → Prop
  | _, .non => True
  | _, .bl _ => True
  | _, .int _ => True
  | _, .str x => PyData.strOk x = true
  | n + 1, .tup ds => ∀ d ∈ ds, okD n d
  | n + 1, .lst ds => ∀ d ∈ ds, okD n d
  | _, _ => False
theorem okD.dp {K : PySem.W.Frag} {F H : Hp} (e : Ex F H) : ∀ (n : Nat) (d : D) (v : V), okD n d → Vw K F H d v → Dp K H v (toP d) := by
  have all : ∀ n, (∀ (d : D) (v : V), okD n d → Vw K F H d v → Dp K H v (toP d)) → ∀ (ds : List D) (vs : List V), (∀ d ∈ ds, okD n d) → RepL K F ds vs → DpAll K H vs (toPs ds) := by
    intro n ih ds
    induction ds with
    | nil => intro vs _ h; cases (show vs = [] from h); exact .nil
    | cons d ds ih2 =>
      intro vs hk h
      obtain ⟨v, r, rfl, h1, h2⟩ := h
      exact .cons (ih d v (hk d List.mem_cons_self) (.inl h1)) (ih2 r (fun x hx => hk x (List.mem_cons_of_mem _ hx)) h2)
  intro n
  induction n with
  | zero =>
    intro d v hk h
    cases d with
    | non => cases h.non; exact .non
    | bl b => cases h.bl; exact .bl b
    | int b => cases h.int; exact .int b
    | str b => cases h.str; exact .str b
    | _ => exact hk.elim
  | succ n ih =>
    intro d v hk h
    cases d with
    | non => cases h.non; exact .non
    | bl b => cases h.bl; exact .bl b
    | int b => cases h.int; exact .int b
    | str b => cases h.str; exact .str b
    | tup ds =>
      obtain ⟨a, vs, rfl, h1, h2⟩ := h.tup e
      exact .tup h1 (all n ih ds vs hk h2)
    | lst ds =>
      obtain ⟨a, vs, rfl, h1, h2⟩ := h.lst e
      exact .lst (.inl h1) (all n ih ds vs hk h2)
    | _ => exact hk.elim
theorem okD.dep : ∀ (n : Nat) (d : D), okD n d → (toP d).depth ≤ n := by
  have all : ∀ n, (∀ d, okD n d → (toP d).depth ≤ n) → ∀ ds : List D, (∀ d ∈ ds, okD n d) → PyData.depthAll (toPs ds) ≤ n := by
    intro n ih ds
    induction ds with
    | nil => intro _; exact Nat.zero_le _
    | cons d ds ih2 =>
      intro hk
      show max (PyData.depth (toP d)) (PyData.depthAll (toPs ds)) ≤ n
      exact Nat.max_le.mpr ⟨ih d (hk d List.mem_cons_self), ih2 fun x hx => hk x (List.mem_cons_of_mem _ hx)⟩
  intro n
  induction n with
  | zero =>
    intro d hk
    cases d with
    | str b => exact Nat.le_refl _
    | non => exact Nat.le_refl _
    | bl b => exact Nat.le_refl _
    | int b => exact Nat.le_refl _
    | _ => exact hk.elim
  | succ n ih =>
    intro d hk
    cases d with
    | str b => exact Nat.zero_le _
    | non => exact Nat.zero_le _
    | bl b => exact Nat.zero_le _
    | int b => exact Nat.zero_le _
    | tup ds => exact Nat.succ_le_succ (all n ih ds hk)
    | lst ds => exact Nat.succ_le_succ (all n ih ds hk)
    | _ => exact hk.elim
theorem okD.lay : ∀ (n : Nat) (d : D), okD n d → (toP d).canLay0 = true := by
  have all : ∀ n, (∀ d, okD n d → (toP d).canLay0 = true) → ∀ ds : List D, (∀ d ∈ ds, okD n d) → PyData.canLayAll0 (toPs ds) = true := by
    intro n ih ds
    induction ds with
    | nil => intro _; rfl
    | cons d ds ih2 =>
      intro hk
      show (PyData.canLay0 (toP d) && PyData.canLayAll0 (toPs ds)) = true
      rw [ih d (hk d List.mem_cons_self), ih2 fun x hx => hk x (List.mem_cons_of_mem _ hx)]; rfl
  intro n
  induction n with
  | zero =>
    intro d hk
    cases d with
    | str b => exact hk
    | non => rfl
    | bl b => rfl
    | int b => rfl
    | _ => exact hk.elim
  | succ n ih =>
    intro d hk
    cases d with
    | str b => exact hk
    | non => rfl
    | bl b => rfl
    | int b => rfl
    | tup ds => exact all n ih ds hk
    | lst ds => exact all n ih ds hk
    | _ => exact hk.elim
theorem okD.shaped {n : Nat} {d : D} (h : okD n d) (hn : n ≤ 64) : SeqAt.shaped (toP d) = true := by
  unfold SeqAt.shaped
  rw [okD.lay n d h, decide_eq_true (Nat.le_trans (okD.dep n d h) hn)]; rfl
def eqD (a b : D) : Bool := PyData.eqv (toP a) (toP b)
theorem opw_eqD {da db : D} {n : Nat} (hu : X.A.units + 64 < cLine) (h1 : okD n da) (h2 : okD n db) (hn : n ≤ 64) (q : Q (.sh (.bl (eqD da db)))) : OpW X (compareOp .Eq) da db Q :=
  opw_flat (d := .bl (eqD da db)) (v := .bl (eqD da db)) (fun _ _ => rfl) (fun F H va vb e k1 k2 => ⟨_, op_eqD hu, fun P p => ⟨_, _, okD.dp e n _ _ h1 k1, okD.dp e n _ _ h2 k2, h1.shaped hn, h2.shaped hn, p⟩⟩) q
theorem opw_neD {da db : D} {n : Nat} (hu : X.A.units + 64 < cLine) (h1 : okD n da) (h2 : okD n db) (hn : n ≤ 64) (q : Q (.sh (.bl (!eqD da db)))) : OpW X (compareOp .NotEq) da db Q :=
  opw_flat (d := .bl (!eqD da db)) (v := .bl (!eqD da db)) (fun _ _ => rfl) (fun F H va vb e k1 k2 => ⟨_, op_neD hu, fun P p => ⟨_, _, okD.dp e n _ _ h1 k1, okD.dp e n _ _ h2 k2, h1.shaped hn, h2.shaped hn, p⟩⟩) q
def IxW (X : Cy) (da db : D) (Q : Res → Prop) : Prop :=
  ∀ (F0 T F : Hp) (G : GD) (H : Hp) (r : Env2) (σ : L2.St) (va vb : V), Sta X.K F0 T F G H r σ → Vw X.K F H da va → Vw X.K F H db vb →
    ∃ rr : R2, IxR X rr ∧ rr va vb H (fun v H' => ∃ x F', Ex F F' ∧ Sta X.K F0 T F' G H' r σ ∧ ResOk X.K T F' G H' r σ x v ∧ Q x)
def ixU (X : Cy) : R2 := fun x y H Q => ∃ rr : R2, IxR X rr ∧ rr x y H Q
theorem ixU_ok : IxR X (ixU X) := fun value slice pins s σ H x y v u Q I rx ry ⟨rr, h1, h2⟩ hs => h1 value slice pins s σ H x y v u Q I rx ry h2 hs
theorem we_ix {Q : Res → Env2 → GD → Prop} (hp : PlainIx b)
    (h : WE X a r G fun x r1 G1 => WE X b r1 G1 fun y r2 G2 => ∃ da db, VwR r2 G2 x da ∧ VwR r2 G2 y db ∧ IxW X da db fun z => Q z r2 G2) : WE X (.Subscript a b pos) r G Q :=
  fun F0 T F H σ lk S => Run.of (pe_ix ixU_ok peR peR hp) (by
    refine (h F0 T F H σ lk S).mono fun va H1 ⟨x, r1, G1, F1, e1, S1, k1, h1⟩ => ?_
    obtain ⟨F1', e1', S1', hv⟩ := hold S1 k1
    refine (h1 F0 T F1' H1 σ lk S1').mono fun vb H2 ⟨y, r2, G2, F2, e2, S2, k2, da, db, q1, q2, q3⟩ => ?_
    obtain ⟨rr, h3, h4⟩ := q3 F0 T F2 G2 H2 r2 σ va vb S2 (hv F2 G2 H2 r2 da e2 S2 q1) (S2.viewR k2 q2)
    refine ⟨fun u w H Q' => rr u w H (fun v H' => ∃ z F', Ex F2 F' ∧ Sta X.K F0 T F' G2 H' r2 σ ∧ ResOk X.K T F' G2 H' r2 σ z v ∧ Q z r2 G2) ∧ ∀ v H', (∃ z F', Ex F2 F' ∧ Sta X.K F0 T F' G2 H' r2 σ ∧ ResOk X.K T F' G2 H' r2 σ z v ∧ Q z r2 G2) → Q' v H', fun value slice pins s σ H x y v u Q' I rx ry ⟨q, m⟩ hs => ?_, h4, fun v H' ⟨z, F', m1, m2, m3, m4⟩ => ⟨z, r2, G2, F', ((e1.trans e1').trans e2).trans m1, m2, m3, m4⟩⟩
    exact wpAny_mono (h3 value slice pins s σ H x y v u _ I rx ry q hs) (fun _ _ ⟨v, H', I', rl, q⟩ => ⟨v, H', I', rl, m v H' q⟩) fun _ _ x => x)
/-- an item by an index of any sign -/
def atD (xs : List D) (i : Int) : Option D := (ixN xs.length i).bind fun j => xs[j]?
theorem atD_get {K : PySem.W.Frag} {F : Hp} {xs : List D} {vs : List V} {i : Int} {d : D} (h : RepL K F xs vs) (e : atD xs i = some d) : ∃ v, atI vs i = some v ∧ Rep K F d v := by
  unfold atD at e
  unfold atI
  rw [h.length]
  cases hj : ixN xs.length i with
  | none => rw [hj] at e; cases e
  | some j =>
    rw [hj] at e
    exact h.get e
theorem ixw_lst {xs : List D} {i : Int} {d : D} (e : atD xs i = some d) (q : Q (.sh d)) : IxW X (.lst xs) (.int i) Q := fun F0 T F G H r σ va vb S h1 h2 => by
  obtain ⟨p, vs, rfl, k1, k2⟩ := h1.lst S.bas.fh
  cases h2.int
  obtain ⟨v, k3, k4⟩ := atD_get k2 e
  exact ⟨_, ix_list, p, vs, i, v, rfl, rfl, .inl k1, k3, .sh d, F, Ex.refl _, S, k4, q⟩
theorem ixw_tup {xs : List D} {i : Int} {d : D} (e : atD xs i = some d) (q : Q (.sh d)) : IxW X (.tup xs) (.int i) Q := fun F0 T F G H r σ va vb S h1 h2 => by
  obtain ⟨p, vs, rfl, k1, k2⟩ := h1.tup S.bas.fh
  cases h2.int
  obtain ⟨v, k3, k4⟩ := atD_get k2 e
  exact ⟨_, ix_tup, p, vs, i, v, rfl, rfl, k1, k3, .sh d, F, Ex.refl _, S, k4, q⟩
/-- one operand -/
theorem we_un {op : UnaryOp} {Q : Res → Env2 → GD → Prop} (hop : op = .USub) (h : WE X a r G fun x r1 G1 => ∃ i, vw r1 x = some (.int i) ∧ Q (.sh (.int (-i))) r1 G1) : WE X (.UnaryOp op a pos) r G Q := fun F0 T F H σ lk S => by
  subst hop
  exact Run.of (pe_un un_neg peR) ((h F0 T F H σ lk S).mono fun va H1 ⟨x, r1, G1, F1, e1, S1, k1, i, h1, h2⟩ => ⟨i, (S1.view k1 h1).int, .sh (.int (-i)), r1, G1, F1, e1, S1, rfl, h2⟩)
end
inductive All2 {A B : Type} (R : A → B → Prop) : List A → List B → Prop
  | nil : All2 R [] []
  | cons {a : A} {b : B} {as : List A} {bs : List B} (h : R a b) (t : All2 R as bs) : All2 R (a :: as) (b :: bs)
section
variable {X : Cy} {e a b c o : Expr} {es : List Expr} {st : Stmt} {sts rest body orelse : List Stmt} {r : Env2} {G : GD} {pos : Pos} {D0 : EndsD}
theorem wb_nil (h : D0.nx r G) : WB X [] r G D0 := fun F0 T F H σ lk S => RunB.of pss_nil ⟨r, G, F, S, h⟩
theorem wb_cons (h : WS X st r G { D0 with nx := fun r1 G1 => WB X rest r1 G1 D0 }) : WB X (st :: rest) r G D0 := fun F0 T F H σ lk S =>
  RunB.of (pss_cons psR pbR) ((h F0 T F H σ lk S).mono (fun σ' H' ⟨r', G', F', S', q⟩ => q F0 T F' H' σ' lk S') (fun _ _ z => z) (fun _ _ z => z) (fun _ _ z => z))
theorem ws_if (h : WT X c r G fun d r1 G1 => (d = true → WB X body r1 G1 D0) ∧ (d = false → WB X orelse r1 G1 D0)) : WS X (.If c body orelse pos) r G D0 := fun F0 T F H σ lk S =>
  RunS.of (ps_if ptR pbR pbR) ((h F0 T F H σ lk S).mono fun d H1 ⟨r1, G1, F1, e1, S1, q1, q2⟩ => by
    cases d with
    | true => rw [if_pos rfl]; exact q1 rfl F0 T F1 H1 σ lk S1
    | false => rw [if_neg Bool.false_ne_true]; exact q2 rfl F0 T F1 H1 σ lk S1)
theorem ws_expr (h : WE X e r G fun _ r1 G1 => D0.nx r1 G1) (hs : swapsWith e none pos.line X.env = pure false := by rfl) : WS X (.Expr e pos) r G D0 := fun F0 T F H σ lk S =>
  RunS.of (ps_expr peR hs) ((h F0 T F H σ lk S).mono fun v H1 ⟨x, r1, G1, F1, e1, S1, k1, q⟩ => ⟨r1, G1, F1, S1, q⟩)
/-- what is handed out -/
def rtS (r : Env2) : Res → Option Res
  | .sh d => some (.sh d)
  | .fr d => some (.fr d)
  | .pk i => match r[i]? with
    | some (.own d) => some (.fr d)
    | _ => none
theorem ws_ret (h : WE X e r G fun x r1 G1 => ∃ y, rtS r1 x = some y ∧ D0.rt y G1) : WS X (.Return (some e) pos) r G D0 := fun F0 T F H σ lk S =>
  RunS.of (ps_ret peR) ((h F0 T F H σ lk S).mono fun v H1 ⟨x, r1, G1, F1, e1, S1, k1, y, q1, q2⟩ => by
    refine ⟨y, G1, F1, S1.bas, ?_, q2⟩
    cases x with
    | sh d => cases q1; exact k1
    | fr d => cases q1; obtain ⟨p, z1, z2, z3, z4, z5, _⟩ := k1; exact ⟨p, z1, z2, z3, z4, z5⟩
    | pk i =>
      obtain ⟨h1, d, h2⟩ := k1
      have q1' : (match r1[i]? with | some (.own d) => some (Res.fr d) | _ => none) = some y := q1
      rw [h2] at q1'
      cases q1'
      obtain ⟨p, z1, z2, z3, z4, z5⟩ := S1.ownS h2
      rw [h1] at z1; cases z1
      exact ⟨p, rfl, z2, z3, z4, z5⟩)
def putS (r : Env2) (i : Nat) : Res → Option Env2
  | .sh d => some (r.set i (.sh d))
  | .fr d => some (r.set i (.own d))
  | .pk j => match r[j]? with
    | some (.own d) => if isDic d then none else some ((r.set j (.sh d)).set i (.sh d))
    | _ => none
theorem Sta.putS {K : PySem.W.Frag} {F0 T F : Hp} {G : GD} {H : Hp} {r r2 : Env2} {σ : L2.St} {x : Res} {v : V} {i : Nat} (S : Sta K F0 T F G H r σ) (h : ResOk K T F G H r σ x v) (hi : i < r.length) (e : putS r i x = some r2) : ∃ F', Ex F F' ∧ Sta K F0 T F' G H r2 (σ.set i (some v)) := by
  cases x with
  | sh d => cases e; exact ⟨F, Ex.refl _, S.set hi ⟨v, rfl, h⟩ fun d' z => nomatch z⟩
  | fr d =>
    cases e
    obtain ⟨p, z1, z2, z3, z4, z5, z6⟩ := h
    subst z1
    exact ⟨F, Ex.refl _, S.set hi ⟨p, rfl, z2, z3, z4, z5⟩ fun d' _ j e' he _ => z6 j e' he⟩
  | pk j =>
    obtain ⟨h1, d, h2⟩ := h
    have e' : (match r[j]? with | some (.own d) => if isDic d then none else some ((r.set j (.sh d)).set i (.sh d)) | _ => none) = some r2 := e
    rw [h2] at e'
    dsimp only at e'
    have hD : isDic d = false := by
      cases hD : isDic d with
      | true => rw [hD] at e'; cases e'
      | false => rfl
    rw [hD] at e'
    cases e'
    obtain ⟨F', k1, k2, v', k3, k4⟩ := S.frzSlot hD h2
    rw [h1] at k3; cases k3
    exact ⟨F', k1, k2.set (by rw [List.length_set]; exact hi) ⟨v, rfl, k4⟩ fun d' z => nomatch z⟩
theorem ws_set (i : Nat) {x : Str} {pos' : Pos} (hN : X.N.Nodup) (hi : X.N[i]? = some x) (hx : Loc X.env.scope x) (h : WE X e r G fun y r1 G1 => i < r1.length ∧ ∃ r2, putS r1 i y = some r2 ∧ D0.nx r2 G1)
    (hs : swapsWith e (some (.Name x pos')) pos.line X.env = pure false := by rfl) (hf : X.fn x = true ∨ X.env.scope.names.lookup x = some .local := by first | exact .inl rfl | exact .inr rfl | assumption) : WS X (.Assign [.Name x pos'] e pos) r G D0 := fun F0 T F H σ lk S =>
  RunS.of (ps_set hN hi hx peR hs hf) ((h F0 T F H σ lk S).mono fun v H1 ⟨y, r1, G1, F1, e1, S1, k1, hi', r2, q1, q2⟩ => by
    obtain ⟨F2, e2, S2⟩ := S1.putS k1 hi' q1
    exact ⟨r2, G1, F2, S2, q2⟩)
/-- targets: names in a row, from frozen data -/
theorem pgs_run : ∀ {tg : List Expr} {ixs : List Nat}, All2 (fun t i => PG X t (gName i)) tg ixs → (∀ t ∈ tg, ∀ ts, (assignEach (t :: ts) X.env).map (·.2) = assign t X.env :: (assignEach ts X.env).map (·.2)) →
    PGs X tg (fun vs σ H Q => vs.length = ixs.length ∧ Q ((ixs.zip vs).foldl (fun s p => s.set p.1 (some p.2)) σ) H)
  | [], [], .nil, _ => ⟨fun pins s σ H vs us Q I rv h => (pgs_nil (X := X)).run pins s σ H vs us Q I rv ⟨List.length_eq_zero_iff.mp h.1, by
      have e : vs = [] := List.length_eq_zero_iff.mp h.1
      subst e
      exact h.2⟩⟩
  | t :: tg, i :: ixs, .cons hp hr, hs => ⟨fun pins s σ H vs us Q I rv h => by
      obtain ⟨hl, q⟩ := h
      cases vs with
      | nil => simp at hl
      | cons v vs =>
        refine (pgs_cons hp (pgs_run hr fun t' ht => hs t' (List.mem_cons_of_mem _ ht)) (hs t List.mem_cons_self tg)).run pins s σ H (v :: vs) us Q I rv ⟨v, vs, rfl, ?_⟩
        exact ⟨by simpa using hl, q⟩⟩
def setAll (r : Env2) : List Nat → List D → Env2
  | i :: is, d :: ds => setAll (r.set i (.sh d)) is ds
  | _, _ => r
theorem Sta.setAll {K : PySem.W.Frag} {F0 T F : Hp} {G : GD} {H : Hp} : ∀ (is : List Nat) (ds : List D) (vs : List V) {r : Env2} {σ : L2.St}, Sta K F0 T F G H r σ → RepL K F ds vs → is.length = ds.length → (∀ i ∈ is, i < r.length) →
    Sta K F0 T F G H (setAll r is ds) ((is.zip vs).foldl (fun s p => s.set p.1 (some p.2)) σ)
  | [], [], vs, r, σ, S, h, _, _ => by
    unfold RB.setAll
    exact S
  | i :: is, d :: ds, vs, r, σ, S, h, hl, hi => by
    obtain ⟨v, vr, rfl, h1, h2⟩ := h
    unfold RB.setAll
    exact Sta.setAll is ds vr (S.set (hi i List.mem_cons_self) ⟨v, rfl, h1⟩ fun d' z => nomatch z) h2 (by simpa using hl) fun j hj => by rw [List.length_set]; exact hi j (List.mem_cons_of_mem _ hj)
  | [], d :: ds, vs, r, σ, S, h, hl, _ => by simp at hl
  | i :: is, [], vs, r, σ, S, h, hl, _ => by simp at hl
/-- a, b, .. = e : e a tuple -/
theorem ws_unpack {tg : List Expr} {k : Nat} {tpos : Pos} (is : List Nat) (hc : X.calm = true) (hp : All2 (fun t i => PG X t (gName i)) tg is) (hst : ∀ t ∈ tg, ∀ ts, (assignEach (t :: ts) X.env).map (·.2) = assign t X.env :: (assignEach ts X.env).map (·.2))
    (h : WE X e r G fun y r1 G1 => ∃ ds r2, fz r1 y = some (.tup ds, r2) ∧ ds.length = is.length ∧ (∀ i ∈ is, i < r2.length) ∧ D0.nx (setAll r2 is ds) G1)
    (hn : (assignEach tg X.env).length = is.length := by rfl) (hf : (assignEach tg X.env).findIdx? (·.1) = none := by rfl)
    (hs : swapsWithSole [.Tuple tg k tpos] e pos.line X.env = pure false := by rfl) (hw : swappedStores [.Tuple tg k tpos] e X.env = pure none := by rfl)
    (h1 : (assignEach [.Tuple tg k tpos] X.env).map (·.2) = [assign (.Tuple tg k tpos) X.env] := by rfl) : WS X (.Assign [.Tuple tg k tpos] e pos) r G D0 := fun F0 T F H σ lk S =>
  RunS.of (ps_asg peR (pg_tup hc (pgs_run hp hst) hn hf) hs hw h1) ((h F0 T F H σ lk S).mono fun v H1 ⟨y, r1, G1, F1, e1, S1, k1, ds, r2, q1, q2, q3, q4⟩ => by
    obtain ⟨F2, e2, S2, rp⟩ := S1.fz k1 q1
    obtain ⟨a, vs, rfl, z1, z2⟩ := rp
    refine ⟨a, vs, rfl, S2.bas.fh.sqT z1, by rw [z2.length]; exact q2, by rw [z2.length]; exact q2, ?_⟩
    exact ⟨_, G1, F2, S2.setAll is ds vs z2 q2.symm q3, q4⟩)
/-- a result that is no own slot -/
def nz (r : Env2) : Res → Option (Res × Env2)
  | .sh d => some (.sh d, r)
  | .fr d => some (.fr d, r)
  | .pk i => match r[i]? with
    | some (.own d) => if isDic d then none else some (.sh d, r.set i (.sh d))
    | _ => none
def slO : Res → Sl
  | .sh d => .sh d
  | .fr d => .own d
  | .pk _ => .no
theorem Sta.nz {K : PySem.W.Frag} {F0 T F : Hp} {G : GD} {H : Hp} {r r2 : Env2} {σ : L2.St} {x y : Res} {v : V} (S : Sta K F0 T F G H r σ) (h : ResOk K T F G H r σ x v) (e : nz r x = some (y, r2)) : ∃ F', Ex F F' ∧ Sta K F0 T F' G H r2 σ ∧ ResOk K T F' G H r2 σ y v ∧ ∀ i, y ≠ .pk i := by
  cases x with
  | sh d => cases e; exact ⟨F, Ex.refl _, S, h, fun i z => nomatch z⟩
  | fr d => cases e; exact ⟨F, Ex.refl _, S, h, fun i z => nomatch z⟩
  | pk i =>
    obtain ⟨h1, d, h2⟩ := h
    have e' : (match r[i]? with | some (.own d) => if isDic d then none else some (Res.sh d, r.set i (.sh d)) | _ => none) = some (y, r2) := e
    rw [h2] at e'
    dsimp only at e'
    have hD : isDic d = false := by
      cases hD : isDic d with
      | true => rw [hD] at e'; cases e'
      | false => rfl
    rw [hD] at e'
    cases e'
    obtain ⟨F', k1, k2, v', k3, k4⟩ := S.frzSlot hD h2
    rw [h1] at k3; cases k3
    exact ⟨F', k1, k2, k4, fun i z => nomatch z⟩
theorem holdT {K : PySem.W.Frag} {F0 T F : Hp} {G : GD} {H : Hp} {r : Env2} {σ : L2.St} {z : Res} {v : V} (S : Sta K F0 T F G H r σ) (h : ResOk K T F G H r σ z v) (hz : ∀ i, z ≠ .pk i) :
    ∃ T', Ex T T' ∧ Sta K F0 T' F G H r σ ∧ ∀ (F2 : Hp) (G2 : GD) (H2 : Hp) (r2 : Env2) (σ2 : L2.St), Ex F F2 → Sta K F0 T' F2 G2 H2 r2 σ2 → Sta K F0 T F2 G2 H2 r2 σ2 ∧ ResOk K T F2 G2 H2 r2 σ2 z v ∧
      ∀ (z2 : Res) (v2 : V), ResOk K T' F2 G2 H2 r2 σ2 z2 v2 → ResOk K T F2 G2 H2 r2 σ2 z2 v2 ∧ ∀ d d2, z = .fr d → z2 = .fr d2 → v ≠ v2 := by
  cases z with
  | pk i => exact absurd rfl (hz i)
  | sh d => exact ⟨T, Ex.refl _, S, fun F2 G2 H2 r2 σ2 ex S2 => ⟨S2, Rep.mono ex _ _ h, fun z2 v2 k => ⟨k, fun d d2 q => nomatch q⟩⟩⟩
  | fr d =>
    obtain ⟨p, rfl, z2, z3, z4, z5, z6⟩ := h
    obtain ⟨o, ho⟩ := z2.there
    refine ⟨upd T p o, Ex.new z5, ?_, ?_⟩
    · refine ⟨⟨S.bas.ff, fun q u hq => ?_, S.bas.fh, S.bas.gh, S.bas.fg, fun q u hq => ?_, fun q u hq => ?_⟩, S.len, fun i s hs => ?_, S.ap⟩
      · have hqp : q ≠ p := fun zz => by subst zz; rw [z3] at hq; cases hq
        rw [upd_ne hqp]
        exact S.bas.ft q u hq
      · have hqp : q ≠ p := fun zz => by subst zz; rw [z4] at hq; cases hq
        rw [upd_ne hqp]
        exact S.bas.gt q u hq
      · by_cases hqp : q = p
        · subst hqp; rw [upd_same] at hq; cases hq; exact ho
        · rw [upd_ne hqp] at hq; exact S.bas.tk q u hq
      · have hh := S.sl i s hs
        cases s with
        | no => trivial
        | sh d => exact hh
        | own d =>
          obtain ⟨p', y1, y2, y3, y4, y5⟩ := hh
          have hqp : p' ≠ p := fun zz => by subst zz; exact z6 i d hs y1
          exact ⟨p', y1, y2, y3, y4, by rw [upd_ne hqp]; exact y5⟩
    · intro F2 G2 H2 r2 σ2 ex S2
      have tsub : ∀ q u, T q = some u → upd T p o q = some u := fun q u hq => by
        have hqp : q ≠ p := fun zz => by subst zz; rw [z5] at hq; cases hq
        rw [upd_ne hqp]; exact hq
      have tdown : ∀ q, upd T p o q = none → T q = none := fun q hq => by
        cases hf : T q with
        | none => rfl
        | some u => rw [tsub q u hf] at hq; cases hq
      have tp : ∀ q, upd T p o q = none → q ≠ p := fun q hq zz => by subst zz; rw [upd_same] at hq; cases hq
      have fp : F2 p = none := by
        cases hf : F2 p with
        | none => rfl
        | some u =>
          rcases S2.bas.ft p u hf with zz | zz
          · have := S.bas.ff p u zz
            rw [z3] at this; cases this
          · exact absurd rfl (tp p zz)
      have gp : G2 p = none := by
        cases hf : G2 p with
        | none => rfl
        | some u => exact absurd rfl (tp p (S2.bas.gt p u hf))
      refine ⟨⟨⟨S2.bas.ff, fun q u hq => (S2.bas.ft q u hq).imp id (tdown q), S2.bas.fh, S2.bas.gh, S2.bas.fg, fun q u hq => tdown q (S2.bas.gt q u hq), fun q u hq => S2.bas.tk q u (tsub q u hq)⟩, S2.len, fun i s hs => ?_, S2.ap⟩, ⟨p, rfl, z2.mono ex fun u hu => by rw [ho] at hu; cases hu; exact S2.bas.tk p o upd_same, fp, gp, z5, fun k d' hk zz => ?_⟩, fun z2' v2 k => ?_⟩
      · have hh := S2.sl i s hs
        cases s with
        | no => trivial
        | sh d => exact hh
        | own d =>
          obtain ⟨p', k1, k2, k3, k4, k5⟩ := hh
          exact ⟨p', k1, k2, k3, k4, tdown p' k5⟩
      · obtain ⟨p', k1, _, _, _, k5⟩ := S2.ownS hk
        rw [zz] at k1; cases k1
        exact tp p k5 rfl
      · cases z2' with
        | sh d => exact ⟨k, fun d d2 _ q => nomatch q⟩
        | pk i => exact ⟨k, fun d d2 _ q => nomatch q⟩
        | fr d' =>
          obtain ⟨p2, rfl, k2, k3, k4, k5, k6⟩ := k
          exact ⟨⟨p2, rfl, k2, k3, k4, tdown p2 k5, k6⟩, fun _ _ _ _ zz => by cases zz; exact tp p k5 rfl⟩
/-- a held result goes to a slot -/
theorem Sta.setR {K : PySem.W.Frag} {F0 T F : Hp} {G : GD} {H : Hp} {r : Env2} {σ : L2.St} {z : Res} {v : V} {i : Nat} (S : Sta K F0 T F G H r σ) (h : ResOk K T F G H r σ z v) (hi : i < r.length) (hz : ∀ i, z ≠ .pk i) : Sta K F0 T F G H (r.set i (slO z)) (σ.set i (some v)) := by
  cases z with
  | pk j => exact absurd rfl (hz j)
  | sh d => exact S.set hi ⟨v, rfl, h⟩ fun d' z => nomatch z
  | fr d =>
    obtain ⟨p, rfl, z2, z3, z4, z5, z6⟩ := h
    exact S.set hi ⟨p, rfl, z2, z3, z4, z5⟩ fun d' _ j e' he _ => z6 j e' he
/-- .. and another held one stays good -/
theorem ResOk.setR {K : PySem.W.Frag} {T F : Hp} {G : GD} {H : Hp} {r : Env2} {σ : L2.St} {z z2 : Res} {v v2 : V} {i : Nat} (h2 : ResOk K T F G H r σ z2 v2) (hi : i < r.length) (hl : r.length = σ.length) (hz : ∀ i, z ≠ .pk i) (hz2 : ∀ i, z2 ≠ .pk i) (hd : ∀ d d2, z = .fr d → z2 = .fr d2 → v ≠ v2) :
    ResOk K T F G H (r.set i (slO z)) (σ.set i (some v)) z2 v2 := by
  cases z2 with
  | pk j => exact absurd rfl (hz2 j)
  | sh d => exact h2
  | fr d =>
    obtain ⟨p, rfl, k2, k3, k4, k5, k6⟩ := h2
    refine ⟨p, rfl, k2, k3, k4, k5, fun k e' he zz => ?_⟩
    by_cases hki : i = k
    · subst hki
      rw [List.getElem?_set_self hi] at he
      rw [List.getElem?_set_self (by rw [← hl]; exact hi)] at zz
      cases z with
      | pk j => exact hz j rfl
      | sh d' => cases he
      | fr d' => cases zz; exact hd d' d rfl rfl rfl
    · rw [List.getElem?_set_ne hki] at he zz
      exact k6 k e' he zz
/-- a, b = e1, e2 with local names -/
theorem ws_par (i j : Nat) {x y : Str} {px py pt : Pos} {kt k2 pt2} (hc : X.calm = true) (hN : X.N.Nodup) (hi : X.N[i]? = some x) (hj : X.N[j]? = some y) (hij : i ≠ j) (hx : X.env.scope.names.lookup x = some .local) (hy : X.env.scope.names.lookup y = some .local)
    (hw : swappedStores [.Tuple [.Name x px, .Name y py] kt pt] (.Tuple [a, b] k2 pt2) X.env = pure (some [x, y]))
    (h : WE X a r G fun z r1 G1 => ∃ z' r2, nz r1 z = some (z', r2) ∧ WE X b r2 G1 fun w r3 G3 => ∃ w' r4, nz r3 w = some (w', r4) ∧ i < r4.length ∧ j < r4.length ∧ D0.nx ((r4.set i (slO z')).set j (slO w')) G3)
    (hs : swapsWithSole [.Tuple [.Name x px, .Name y py] kt pt] (.Tuple [a, b] k2 pt2) pos.line X.env = pure false := by rfl)
    (h1 : starEach [a, b] X.env = (false, eval a X.env) :: starEach [b] X.env := by rfl) (h2 : starEach [b] X.env = (false, eval b X.env) :: starEach [] X.env := by rfl) :
    WS X (.Assign [.Tuple [.Name x px, .Name y py] kt pt] (.Tuple [a, b] k2 pt2) pos) r G D0 := fun F0 T F H σ lk S =>
  RunS.of (ps_par hc hN hi hj hij hx hy (pa_cons peR (pa_cons peR pa_nil h2) h1) hw hs) ((h F0 T F H σ lk S).mono fun v H1 ⟨z, r1, G1, F1, e1, S1, k1, z', r2, q1, q2⟩ => by
    obtain ⟨F2, e2, S2, k2, hz⟩ := S1.nz k1 q1
    obtain ⟨T', tx, S2', hold⟩ := holdT S2 k2 hz
    refine (q2 F0 T' F2 H1 σ (lk.ext tx) S2').mono fun w H3 ⟨u, r3, G3, F3, e3, S3, k3, w', r4, q3, hi', hj', q4⟩ => ?_
    obtain ⟨F4, e4, S4, k4, hz4⟩ := S3.nz k3 q3
    obtain ⟨S5, m1, m2⟩ := hold F4 G3 H3 r4 σ (e3.trans e4) S4
    obtain ⟨m3, m4⟩ := m2 w' w k4
    refine ⟨v, w, rfl, _, G3, F4, ?_, q4⟩
    exact (S5.setR m1 hi' hz).setR (m3.setR hi' S5.len hz hz4 m4) (by rw [List.length_set]; exact hj') hz4)
end
def isort (ns : List Int) : List Int := ns.mergeSort fun a b => decide (a ≤ b)
section
variable {X : Cy} {e a b c o : Expr} {es : List Expr} {st : Stmt} {sts rest body orelse : List Stmt} {r : Env2} {G : GD} {pos p0 : Pos} {D0 : EndsD} {Q : Res → Prop}
def CallW1 (X : Cy) (f : Value) (d : D) (Q : Res → Prop) : Prop :=
  ∀ (F0 T F : Hp) (G : GD) (H : Hp) (r : Env2) (σ : L2.St) (v : V), Sta X.K F0 T F G H r σ → Vw X.K F H d v →
    ∃ rr : List V → Hp → VK → Prop, CallR X f rr ∧ rr [v] H (fun v' H' => ∃ x F', Ex F F' ∧ Sta X.K F0 T F' G H' r σ ∧ ResOk X.K T F' G H' r σ x v' ∧ Q x)
def CallW2 (X : Cy) (f : Value) (da db : D) (Q : Res → Prop) : Prop :=
  ∀ (F0 T F : Hp) (G : GD) (H : Hp) (r : Env2) (σ : L2.St) (va vb : V), Sta X.K F0 T F G H r σ → Vw X.K F H da va → Vw X.K F H db vb →
    ∃ rr : List V → Hp → VK → Prop, CallR X f rr ∧ rr [va, vb] H (fun v' H' => ∃ x F', Ex F F' ∧ Sta X.K F0 T F' G H' r σ ∧ ResOk X.K T F' G H' r σ x v' ∧ Q x)
def callU (X : Cy) (f : Value) : List V → Hp → VK → Prop := fun vs H Q => ∃ rr : List V → Hp → VK → Prop, CallR X f rr ∧ rr vs H Q
theorem callU_ok (f : Value) : CallR X f (callU X f) := fun pins s σ H xs us Q I rv ⟨rr, h1, h2⟩ => h1 pins s σ H xs us Q I rv h2
theorem CallR.post {f : Value} {rr : List V → Hp → VK → Prop} (h : CallR X f rr) (P : VK) : CallR X f (fun vs H Q' => rr vs H P ∧ ∀ v H', P v H' → Q' v H') := fun pins s σ H xs us Q' I rv ⟨q, m⟩ =>
  wpAny_mono (h pins s σ H xs us P I rv q) (fun _ _ ⟨v, H', I', rl, q⟩ => ⟨v, H', I', rl, m v H' q⟩) fun _ _ x => x
theorem one1 {f : Value} {Q : Res → Env2 → GD → Prop} {F0 T F H : Hp} {σ : L2.St} (lk : Lk X F0 T) (S : Sta X.K F0 T F G H r σ) (h : WE X e r G fun x r1 G1 => ∃ d, VwR r1 G1 x d ∧ CallW1 X f d fun z => Q z r1 G1) :
    tCB (callU X f) (tCons (Run X e) tNil) σ H (PostE X.K F0 T F σ Q) := by
  refine (h F0 T F H σ lk S).mono fun v H1 ⟨x, r1, G1, F1, e1, S1, k1, d, q1, q2⟩ => ?_
  obtain ⟨rr, h3, h4⟩ := q2 F0 T F1 G1 H1 r1 σ v S1 (S1.viewR k1 q1)
  exact ⟨_, CallR.post h3 _, h4, fun v H' ⟨z, F', m1, m2, m3, m4⟩ => ⟨z, r1, G1, F', e1.trans m1, m2, m3, m4⟩⟩
theorem we_b1 {x : Str} {id : String} {Q : Res → Env2 → GD → Prop} (hg : Gl X x) (hm : X.mg x = none) (hv : bootBuiltins x = some (.builtin id)) (h : WE X e r G fun x r1 G1 => ∃ d, VwR r1 G1 x d ∧ CallW1 X (.builtin id) d fun z => Q z r1 G1)
    (hn : x ≠ "__name__" := by decide) (hdb : (x == ("__debug__" : Str)) = false := by decide) (he : starEach [e] X.env = (false, eval e X.env) :: starEach [] X.env := by rfl) (hpl : (backTo pos (starEach [] X.env)).any (·.1) = false := by rfl) :
    WE X (.Call (.Name x p0) [e] [] pos) r G Q := fun F0 T F H σ lk S => Run.of (pe_callB (callU_ok _) hg hm hv (pa_cons peR pa_nil he) hn hdb he hpl) (one1 lk S h)
theorem we_t1 {x : Str} {id : String} {Q : Res → Env2 → GD → Prop} (hg : Gl X x) (hm : X.mg x = none) (hv : bootBuiltins x = some (.type id)) (h : WE X e r G fun x r1 G1 => ∃ d, VwR r1 G1 x d ∧ CallW1 X (.type id) d fun z => Q z r1 G1)
    (hn : x ≠ "__name__" := by decide) (hdb : (x == ("__debug__" : Str)) = false := by decide) (he : starEach [e] X.env = (false, eval e X.env) :: starEach [] X.env := by rfl) (hpl : (backTo pos (starEach [] X.env)).any (·.1) = false := by rfl) :
    WE X (.Call (.Name x p0) [e] [] pos) r G Q := fun F0 T F H σ lk S => Run.of (pe_callTy (callU_ok _) hg hm hv (pa_cons peR pa_nil he) hn hdb he hpl) (one1 lk S h)
theorem two2 {f : Value} {Q : Res → Env2 → GD → Prop} {F0 T F H : Hp} {σ : L2.St} (lk : Lk X F0 T) (S : Sta X.K F0 T F G H r σ) (h : WE X a r G fun x r1 G1 => WE X b r1 G1 fun y r2 G2 => ∃ da db, VwR r2 G2 x da ∧ VwR r2 G2 y db ∧ CallW2 X f da db fun z => Q z r2 G2) :
    tCB (callU X f) (tCons (Run X a) (tCons (Run X b) tNil)) σ H (PostE X.K F0 T F σ Q) := by
  refine (h F0 T F H σ lk S).mono fun va H1 ⟨x, r1, G1, F1, e1, S1, k1, h1⟩ => ?_
  obtain ⟨F1', e1', S1', hv⟩ := hold S1 k1
  refine (h1 F0 T F1' H1 σ lk S1').mono fun vb H2 ⟨y, r2, G2, F2, e2, S2, k2, da, db, q1, q2, q3⟩ => ?_
  obtain ⟨rr, h3, h4⟩ := q3 F0 T F2 G2 H2 r2 σ va vb S2 (hv F2 G2 H2 r2 da e2 S2 q1) (S2.viewR k2 q2)
  exact ⟨_, CallR.post h3 _, h4, fun v H' ⟨z, F', m1, m2, m3, m4⟩ => ⟨z, r2, G2, F', ((e1.trans e1').trans e2).trans m1, m2, m3, m4⟩⟩
theorem we_b2 {x : Str} {id : String} {Q : Res → Env2 → GD → Prop} (hg : Gl X x) (hm : X.mg x = none) (hv : bootBuiltins x = some (.builtin id)) (h : WE X a r G fun x r1 G1 => WE X b r1 G1 fun y r2 G2 => ∃ da db, VwR r2 G2 x da ∧ VwR r2 G2 y db ∧ CallW2 X (.builtin id) da db fun z => Q z r2 G2)
    (hn : x ≠ "__name__" := by decide) (hdb : (x == ("__debug__" : Str)) = false := by decide) (he : starEach [a, b] X.env = (false, eval a X.env) :: starEach [b] X.env := by rfl) (he2 : starEach [b] X.env = (false, eval b X.env) :: starEach [] X.env := by rfl) (hpl : (backTo pos (starEach [b] X.env)).any (·.1) = false := by rfl) :
    WE X (.Call (.Name x p0) [a, b] [] pos) r G Q := fun F0 T F H σ lk S => Run.of (pe_callB (callU_ok _) hg hm hv (pa_cons peR (pa_cons peR pa_nil he2) he) hn hdb he hpl) (two2 lk S h)
theorem c1_flat {f : Value} {d d' : D} {v' : V} (hd : ∀ K F, Rep K F d' v') (h : ∀ F H v, Ex F H → Vw X.K F H d v → ∃ rr, CallR X f rr ∧ ∀ P : VK, P v' H → rr [v] H P) (q : Q (.sh d')) : CallW1 X f d Q :=
  fun F0 T F G H r σ v S h1 => by
    obtain ⟨rr, k1, k2⟩ := h F H v S.bas.fh h1
    exact ⟨rr, k1, k2 _ ⟨.sh d', F, Ex.refl _, S, hd _ _, q⟩⟩
theorem c2_flat {f : Value} {da db d' : D} {v' : V} (hd : ∀ K F, Rep K F d' v') (h : ∀ F H va vb, Ex F H → Vw X.K F H da va → Vw X.K F H db vb → ∃ rr, CallR X f rr ∧ ∀ P : VK, P v' H → rr [va, vb] H P) (q : Q (.sh d')) : CallW2 X f da db Q :=
  fun F0 T F G H r σ va vb S h1 h2 => by
    obtain ⟨rr, k1, k2⟩ := h F H va vb S.bas.fh h1 h2
    exact ⟨rr, k1, k2 _ ⟨.sh d', F, Ex.refl _, S, hd _ _, q⟩⟩
theorem c_len {ds : List D} (q : Q (.sh (.int (ds.length : Nat)))) : CallW1 X (.builtin "len") (.lst ds) Q :=
  c1_flat (d' := .int (ds.length : Nat)) (v' := .int (ds.length : Nat)) (fun _ _ => rfl) (fun F H v ex h => by
    obtain ⟨p, vs, rfl, k1, k2⟩ := h.lst ex
    exact ⟨_, call_len_seq, fun P hp => ⟨p, vs, rfl, .inl (.inl k1), by rw [k2.length]; exact hp⟩⟩) q
theorem c_lenT {ds : List D} (q : Q (.sh (.int (ds.length : Nat)))) : CallW1 X (.builtin "len") (.tup ds) Q :=
  c1_flat (d' := .int (ds.length : Nat)) (v' := .int (ds.length : Nat)) (fun _ _ => rfl) (fun F H v ex h => by
    obtain ⟨p, vs, rfl, k1, k2⟩ := h.tup ex
    exact ⟨_, call_len_seq, fun P hp => ⟨p, vs, rfl, .inr k1, by rw [k2.length]; exact hp⟩⟩) q
theorem c_int {i : Int} (q : Q (.sh (.int i))) : CallW1 X (.type "int") (.int i) Q :=
  c1_flat (d' := .int i) (v' := .int i) (fun _ _ => rfl) (fun F H v ex h => ⟨_, call_int1, fun P hp => .inl ⟨i, by rw [h.int], hp⟩⟩) q
theorem c_max2 {i j : Int} (hc : X.calm = true) (q : Q (.sh (.int (if j > i then j else i)))) : CallW2 X (.builtin "max") (.int i) (.int j) Q :=
  c2_flat (d' := .int (if j > i then j else i)) (v' := .int (if j > i then j else i)) (fun _ _ => rfl) (fun F H va vb ex h1 h2 => ⟨_, call_max2 hc, fun P hp => ⟨i, j, by rw [h1.int, h2.int], hp⟩⟩) q
theorem c_min2 {i j : Int} (hc : X.calm = true) (q : Q (.sh (.int (if j < i then j else i)))) : CallW2 X (.builtin "min") (.int i) (.int j) Q :=
  c2_flat (d' := .int (if j < i then j else i)) (v' := .int (if j < i then j else i)) (fun _ _ => rfl) (fun F H va vb ex h1 h2 => ⟨_, call_min2 hc, fun P hp => ⟨i, j, by rw [h1.int, h2.int], hp⟩⟩) q
/-- a new list, a new tuple as the result -/
theorem new_lst {K : PySem.W.Frag} {F0 T F : Hp} {G : GD} {H : Hp} {r : Env2} {σ : L2.St} (S : Sta K F0 T F G H r σ) {ds : List D} {vs : List V} (h : RepL K F ds vs) {p : Addr} (hp : H p = none) {Q : Res → Prop} (q : Q (.fr (.lst ds))) :
    ∃ x F', Ex F F' ∧ Sta K F0 T F' G (upd H p (.lst vs)) r σ ∧ ResOk K T F' G (upd H p (.lst vs)) r σ x (.ref p) ∧ Q x := by
  obtain ⟨f1, f2, f3⟩ := S.bas.freshF hp
  exact ⟨.fr (.lst ds), F, Ex.refl _, S.newH hp, ⟨p, rfl, ⟨vs, upd_same, h⟩, f1, f2, f3, S.freshR hp⟩, q⟩
theorem new_tup {K : PySem.W.Frag} {F0 T F : Hp} {G : GD} {H : Hp} {r : Env2} {σ : L2.St} (S : Sta K F0 T F G H r σ) {ds : List D} {vs : List V} (h : RepL K F ds vs) {p : Addr} (hp : H p = none) {Q : Res → Prop} (q : Q (.sh (.tup ds))) :
    ∃ x F', Ex F F' ∧ Sta K F0 T F' G (upd H p (.tup vs)) r σ ∧ ResOk K T F' G (upd H p (.tup vs)) r σ x (.ref p) ∧ Q x := by
  have ef : Ex F (upd F p (.tup vs)) := Ex.new (S.bas.freshF hp).1
  exact ⟨.sh (.tup ds), upd F p (.tup vs), ef, S.newF hp, ⟨p, vs, rfl, .inl (.inl upd_same), RepL.mono ef _ _ h⟩, q⟩
theorem c_tuple {ds : List D} (q : Q (.sh (.tup ds))) : CallW1 X (.type "tuple") (.lst ds) Q := fun F0 T F G H r σ v S h => by
  obtain ⟨p, vs, rfl, k1, k2⟩ := h.lst S.bas.fh
  exact ⟨_, call_tuple_of, p, vs, rfl, .inl ⟨.inl k1, fun l hl => new_tup S k2 hl q⟩⟩
def cutD (xs : List D) (lo hi : Option Int) : List D := (xs.drop (HT.sIx xs.length 0 lo)).take (HT.sIx xs.length xs.length hi - HT.sIx xs.length 0 lo)
theorem cut_rep {K : PySem.W.Frag} {F : Hp} {ds : List D} {vs : List V} (h : RepL K F ds vs) (lo hi : Option Int) : RepL K F (cutD ds lo hi) (cutV vs lo hi) := by
  unfold cutD cutV
  rw [h.length]
  exact (h.drop _).take _
def RunO (X : Cy) (oe : Option Expr) : TO := fun σ H Q => ∀ (pins : List (Addr × Obj)) (s : Shared), Inv X pins σ H s → wpAny (model X.prog X.w) X.A (evalPart oe X.env) (fun u s' => ∃ o H', Inv X pins σ H' s' ∧ IsPart u o ∧ Q o H') X.xe s
theorem poR {oe : Option Expr} : PO X oe (RunO X oe) := ⟨fun pins s _ _ _ I h => h pins s I⟩
def WO (X : Cy) (oe : Option Expr) (r : Env2) (G : GD) (Q : Option Int → Env2 → GD → Prop) : Prop :=
  ∀ (F0 T F H : Hp) (σ : L2.St), Lk X F0 T → Sta X.K F0 T F G H r σ → RunO X oe σ H (fun o H' => ∃ r' G' F', Ex F F' ∧ Sta X.K F0 T F' G' H' r' σ ∧ Q o r' G')
theorem RunO.mono {oe : Option Expr} {σ : L2.St} {H : Hp} {Q Q' : Option Int → Hp → Prop} (h : RunO X oe σ H Q) (k : ∀ v H', Q v H' → Q' v H') : RunO X oe σ H Q' := fun pins s I =>
  wpAny_mono (h pins s I) (fun _ _ ⟨o, H', I', p, q⟩ => ⟨o, H', I', p, k _ H' q⟩) fun _ _ x => x
theorem wo_none {Q : Option Int → Env2 → GD → Prop} (q : Q none r G) : WO X none r G Q := fun F0 T F H σ lk S pins s I => po_none.run pins s σ H _ I ⟨r, G, F, Ex.refl _, S, q⟩
theorem wo_some {Q : Option Int → Env2 → GD → Prop} (h : WE X e r G fun x r1 G1 => ∃ i, vw r1 x = some (.int i) ∧ Q (some i) r1 G1) : WO X (some e) r G Q := fun F0 T F H σ lk S pins s I =>
  (po_some peR).run pins s σ H _ I ((h F0 T F H σ lk S).mono fun v H1 ⟨x, r1, G1, F1, e1, S1, k1, i, q1, q2⟩ => ⟨i, (S1.view k1 q1).int, r1, G1, F1, e1, S1, q2⟩)
def SlW (X : Cy) (d : D) (lo hi : Option Int) (Q : Res → Prop) : Prop :=
  ∀ (F0 T F : Hp) (G : GD) (H : Hp) (r : Env2) (σ : L2.St) (v : V), Sta X.K F0 T F G H r σ → Vw X.K F H d v →
    ∃ rr, L2.SlR X rr ∧ rr v lo hi H (fun v' H' => ∃ x F', Ex F F' ∧ Sta X.K F0 T F' G H' r σ ∧ ResOk X.K T F' G H' r σ x v' ∧ Q x)
def slU (X : Cy) : V → Option Int → Option Int → Hp → VK → Prop := fun x lo hi H Q => ∃ rr, L2.SlR X rr ∧ rr x lo hi H Q
theorem SlR.post {rr : V → Option Int → Option Int → Hp → VK → Prop} (h : L2.SlR X rr) (P : VK) : L2.SlR X (fun x lo hi H Q' => rr x lo hi H P ∧ ∀ v H', P v H' → Q' v H') := fun pins s σ H x v vl vu lo hi sl Q' I rx hs pl pu ⟨q, m⟩ => by
  obtain ⟨T, id, h1, h2, h3⟩ := h pins s σ H x v vl vu lo hi sl P I rx hs pl pu q
  exact ⟨T, id, h1, h2, wpAny_mono h3 (fun _ _ ⟨v, H', I', rl, q⟩ => ⟨v, H', I', rl, m v H' q⟩) fun _ _ x => x⟩
theorem slU_ok : L2.SlR X (slU X) := fun pins s σ H x v vl vu lo hi sl Q I rx hs pl pu ⟨rr, h1, h2⟩ => h1 pins s σ H x v vl vu lo hi sl Q I rx hs pl pu h2
theorem we_slice {lo hi : Option Expr} {p2 : Pos} {Q : Res → Env2 → GD → Prop} (h : WE X a r G fun x r1 G1 => WO X lo r1 G1 fun l r2 G2 => WO X hi r2 G2 fun u r3 G3 => ∃ d, VwR r3 G3 x d ∧ SlW X d l u fun z => Q z r3 G3) :
    WE X (.Subscript a (.Slice lo hi none p2) pos) r G Q := fun F0 T F H σ lk S => Run.of (pe_slice slU_ok peR poR poR) (by
  refine (h F0 T F H σ lk S).mono fun va H1 ⟨x, r1, G1, F1, e1, S1, k1, h1⟩ => ?_
  obtain ⟨F1', e1', S1', hv⟩ := hold S1 k1
  refine (h1 F0 T F1' H1 σ lk S1').mono fun l H2 ⟨r2, G2, F2, e2, S2, h2⟩ => ?_
  refine (h2 F0 T F2 H2 σ lk S2).mono fun u H3 ⟨r3, G3, F3, e3, S3, d, q1, q2⟩ => ?_
  obtain ⟨rr, h3, h4⟩ := q2 F0 T F3 G3 H3 r3 σ va S3 (hv F3 G3 H3 r3 d (e2.trans e3) S3 q1)
  exact ⟨_, SlR.post h3 _, h4, fun v H' ⟨z, F', m1, m2, m3, m4⟩ => ⟨z, r3, G3, F', (((e1.trans e1').trans e2).trans e3).trans m1, m2, m3, m4⟩⟩)
theorem slw_lst {ds : List D} {lo hi : Option Int} (q : Q (.fr (.lst (cutD ds lo hi)))) : SlW X (.lst ds) lo hi Q := fun F0 T F G H r σ v S h => by
  obtain ⟨p, vs, rfl, k1, k2⟩ := h.lst S.bas.fh
  exact ⟨_, sl_list, p, vs, rfl, .inl k1, fun l hl => new_lst S (cut_rep k2 lo hi) hl q⟩
theorem slw_tup {ds : List D} {lo hi : Option Int} (q : Q (.sh (.tup (cutD ds lo hi)))) : SlW X (.tup ds) lo hi Q := fun F0 T F G H r σ v S h => by
  have rp : Rep X.K F (.tup ds) v := by
    rcases h with h | ⟨_, _, h⟩
    · exact h
    · exact h.elim
  obtain ⟨p, vs, rfl, k1, k2⟩ := h.tup S.bas.fh
  refine ⟨_, sl_tupA, p, vs, rfl, k1, fun hw => ?_, fun _ l hl => new_tup S (cut_rep k2 lo hi) hl q⟩
  have ec : cutD ds lo hi = ds := by
    unfold cutD
    rw [← k2.length, hw.1, hw.2]
    simp [k2.length]
  rw [ec] at q
  exact ⟨.sh (.tup ds), F, Ex.refl _, S, rp, q⟩
end
theorem Bas.base {F0 T F : Hp} {G : GD} {H : Hp} {K : PySem.W.Frag} (B : Bas K F0 T F G H) : Bas K F T F G H := ⟨Ex.refl _, fun _ _ h => .inl h, B.fh, B.gh, B.fg, B.gt, B.tk⟩
theorem Bas.back {F0 T F1 : Hp} {G1 : GD} {H1 F : Hp} {G : GD} {H : Hp} {K : PySem.W.Frag} (B : Bas K F0 T F1 G1 H1) (C : Bas K F1 T F G H) : Bas K F0 T F G H :=
  ⟨B.ff.trans C.ff, fun a o h => (C.ft a o h).elim (fun z => B.ft a o z) .inr, C.fh, C.gh, C.fg, C.gt, C.tk⟩
theorem Sta.base {K : PySem.W.Frag} {F0 T F : Hp} {G : GD} {H : Hp} {r : Env2} {σ : L2.St} (S : Sta K F0 T F G H r σ) : Sta K F T F G H r σ := ⟨S.bas.base, S.len, S.sl, S.ap⟩
theorem Sta.back {K : PySem.W.Frag} {F0 T F1 : Hp} {G1 : GD} {H1 F : Hp} {G : GD} {H : Hp} {r : Env2} {σ : L2.St} (B : Bas K F0 T F1 G1 H1) (S : Sta K F1 T F G H r σ) : Sta K F0 T F G H r σ := ⟨B.back S.bas, S.len, S.sl, S.ap⟩
theorem at_back {K : PySem.W.Frag} {F0 T F1 : Hp} {G1 : GD} {H1 : Hp} (B : Bas K F0 T F1 G1 H1) {Q : Env2 → GD → Prop} {σ : L2.St} {H : Hp} (h : PostN K F1 T Q σ H) : PostN K F0 T Q σ H := by
  obtain ⟨r, G, F, S, q⟩ := h
  exact ⟨r, G, F, S.back B, q⟩
theorem rt_back {K : PySem.W.Frag} {F0 T F1 : Hp} {G1 : GD} {H1 : Hp} (B : Bas K F0 T F1 G1 H1) {Q : Res → GD → Prop} {v : V} {H : Hp} (h : PostR K F1 T Q v H) : PostR K F0 T Q v H := by
  obtain ⟨x, G, F, C, k, q⟩ := h
  exact ⟨x, G, F, B.back C, k, q⟩
def RunG (X : Cx) (tg : Expr) : TG := fun v σ H Q => ∀ (pins : List (Addr × Obj)) (s : Shared) (u : Value), Inv X pins σ H s → RelV v u → wpAny (model X.prog X.w) X.A (assign tg X.env u) (fun _ s' => ∃ σ' H', Inv X pins σ' H' s' ∧ Q σ' H') X.xe s
theorem pgR {X : Cx} {tg : Expr} : PG X tg (RunG X tg) := ⟨fun pins s σ H v u Q I rv h => h pins s u I rv⟩
/-- frozen data goes to a target; σ' differs from σ in the slots is alone -/
def WG (X : Cy) (tg : Expr) (d : D) (r : Env2) (G : GD) (is : List Nat) (Q : Env2 → GD → Prop) : Prop :=
  ∀ (F0 T F H : Hp) (σ : L2.St) (v : V), Lk X F0 T → Sta X.K F0 T F G H r σ → Rep X.K F d v → RunG X tg v σ H (fun σ' H' => wipe σ' is = wipe σ is ∧ ∃ r' G' F', Ex F F' ∧ Sta X.K F0 T F' G' H' r' σ' ∧ Q r' G')
theorem wipe_set {σ : L2.St} {i : Nat} {x : Option V} : ∀ {is : List Nat}, i ∈ is → wipe (σ.set i x) is = wipe σ is
  | [], h => by simp at h
  | j :: is, h => by
    unfold wipe
    by_cases hm : i ∈ is
    · rw [wipe_set hm]
    · have hj : i = j := by
        rcases List.mem_cons.mp h with z | z
        · exact z
        · exact absurd z hm
      subst hj
      have aux : ∀ (is : List Nat), i ∉ is → wipe (σ.set i x) is = (wipe σ is).set i x := by
        intro is
        induction is with
        | nil => intro _; rfl
        | cons k is ih =>
          intro hk
          unfold wipe
          rw [ih (fun z => hk (List.mem_cons_of_mem _ z)), List.set_comm _ _ (fun z => hk (by rw [z]; exact List.mem_cons_self))]
      rw [aux is hm, List.set_set]
section
variable {X : Cy} {e a b c o tg : Expr} {es : List Expr} {st : Stmt} {sts rest body orelse : List Stmt} {r : Env2} {G : GD} {pos p0 : Pos} {D0 : EndsD}
theorem wg_name (i : Nat) {x : Str} {d : D} {is : List Nat} {Q : Env2 → GD → Prop} (hN : X.N.Nodup) (hi : X.N[i]? = some x) (hx : Loc X.env.scope x) (hm : i ∈ is) (hl : i < r.length) (q : Q (r.set i (.sh d)) G) (hf : X.fn x = true ∨ X.env.scope.names.lookup x = some .local := by first | exact .inl rfl | exact .inr rfl | assumption) :
    WG X (.Name x pos) d r G is Q := fun F0 T F H σ v lk S rp pins s u I rv => by
  refine (pg_name hN hi hx hf).run pins s σ H v u _ I rv ⟨wipe_set hm, r.set i (.sh d), G, F, Ex.refl _, S.set hl ⟨v, rfl, rp⟩ (fun d' z => nomatch z), q⟩
theorem fold_wipe : ∀ (ixs : List Nat) (vs : List V) (σ : L2.St) {is : List Nat}, (∀ i ∈ ixs, i ∈ is) → wipe ((ixs.zip vs).foldl (fun s p => s.set p.1 (some p.2)) σ) is = wipe σ is
  | [], _, _, _, _ => by simp
  | _ :: _, [], _, _, _ => by simp
  | i :: ixs, v :: vs, σ, is, h => by
    rw [List.zip_cons_cons, List.foldl_cons, fold_wipe ixs vs _ fun j hj => h j (List.mem_cons_of_mem _ hj)]
    exact wipe_set (h i List.mem_cons_self)
theorem wg_tup {ts : List Expr} {k : Nat} (ixs : List Nat) {ds : List D} {is : List Nat} {Q : Env2 → GD → Prop} (hc : X.calm = true) (hp : All2 (fun t i => PG X t (gName i)) ts ixs) (hst : ∀ t ∈ ts, ∀ us, (assignEach (t :: us) X.env).map (·.2) = assign t X.env :: (assignEach us X.env).map (·.2))
    (hm : ∀ i ∈ ixs, i ∈ is) (hl : ds.length = ixs.length) (hr : ∀ i ∈ ixs, i < r.length) (q : Q (setAll r ixs ds) G) (hn : (assignEach ts X.env).length = ixs.length := by rfl) (hf : (assignEach ts X.env).findIdx? (·.1) = none := by rfl) :
    WG X (.Tuple ts k pos) (.tup ds) r G is Q := fun F0 T F H σ v lk S rp pins s u I rv => by
  obtain ⟨a, vs, rfl, z1, z2⟩ := rp
  refine (pg_tup hc (pgs_run hp hst) hn hf).run pins s σ H _ u _ I rv ⟨a, vs, rfl, S.bas.fh.sqT z1, by rw [z2.length]; exact hl, by rw [z2.length]; exact hl, fold_wipe ixs vs σ hm, _, G, F, Ex.refl _, S.setAll ixs ds vs z2 hl.symm hr, q⟩
/-- a turn of a loop: the item goes to the target, the body runs -/
theorem turn1 {d : D} {v : V} {is : List Nat} {F0 T Fa : Hp} {Ga : GD} {Ha F H : Hp} {σ : L2.St} {I : Env2 → GD → Prop} (lk : Lk X F0 T) (B : Bas X.K F0 T Fa Ga Ha) (S : Sta X.K Fa T F G H r σ) (rp : Rep X.K F d v) (h : WG X tg d r G is fun r1 G1 => WB X body r1 G1 { D0 with nx := I, ct := I, bk := D0.nx }) {P : L2.St → Hp → Prop}
    (hP : ∀ σ' H', PostN X.K Fa T I σ' H' → P σ' H') : RunG X tg v σ H fun σ2 H2 => RunB X body { D0.at X.K F0 T with nx := P, ct := P, bk := (D0.at X.K F0 T).nx } σ2 H2 := fun pins s u J rv => by
  refine wpAny_mono (h Fa T F H σ v (lk.base B) S rp pins s u J rv) (fun _ s' ⟨σ', H', J', _, r', G', F', e', S', q⟩ => ⟨σ', H', J', ?_⟩) fun _ _ x => x
  exact (q Fa T F' H' σ' (lk.base B) S').mono hP (fun v H z => rt_back B z) (fun σ H z => at_back B z) hP
/-- J yields the data ds, while what is frozen at Fa stays -/
def ItD (K : PySem.W.Frag) (J : It) (Fa : Hp) (ds : List D) : Prop := ∀ (F H : Hp), Ex Fa F → Ex F H → J.stop ds.length H ∧ ∀ (i : Nat) (d : D), ds[i]? = some d → J.go i H ∧ ∀ x H', J.yld i H x H' →
  (H' = H ∧ Rep K F d x) ∨ ∃ p o, H p = none ∧ H' = upd H p o ∧ x = .ref p ∧ Rep K (upd F p o) d (.ref p)
theorem ItD.mono {K : PySem.W.Frag} {J : It} {F F' : Hp} {ds : List D} (e : Ex F F') (h : ItD K J F ds) : ItD K J F' ds := fun F2 H e1 e2 => h F2 H (e.trans e1) e2
/-- a yielded item, over a state -/
theorem ItD.item {K : PySem.W.Frag} {J : It} {Fa F0 T F : Hp} {G : GD} {H H' : Hp} {r : Env2} {σ : L2.St} {ds : List D} {i : Nat} {d : D} {x : V} (h : ItD K J Fa ds) (ea : Ex Fa F) (S : Sta K F0 T F G H r σ) (hi : ds[i]? = some d) (y : J.yld i H x H') :
    ∃ F', Ex F F' ∧ Sta K F0 T F' G H' r σ ∧ Rep K F' d x := by
  obtain ⟨_, h2⟩ := h F H ea S.bas.fh
  rcases (h2 i d hi).2 x H' y with ⟨rfl, rp⟩ | ⟨p, o, hp, rfl, rfl, rp⟩
  · exact ⟨F, Ex.refl _, S, rp⟩
  · exact ⟨upd F p o, Ex.new (S.bas.freshF hp).1, S.newF hp, rp⟩
def RunI (X : Cx) (tg e : Expr) : TI := fun σ H R => ∀ (pins : List (Addr × Obj)) (s : Shared), Inv X pins σ H s → wpAny (model X.prog X.w) X.A (eval e X.env) (fun v s1 => wpAny (model X.prog X.w) X.A (pyIter v) (PIE X pins σ tg R) X.xe s1) X.xe s
theorem piR {X : Cx} {tg e : Expr} : PI X tg e (RunI X tg e) := ⟨fun pins s _ _ _ I h => h pins s I⟩
theorem RunI.of {X : Cx} {tg e : Expr} {wi : TI} {σ : L2.St} {H : Hp} {R : It → Hp → Prop} (h : PI X tg e wi) (q : wi σ H R) : RunI X tg e σ H R := fun pins s I => h.run pins s σ H R I q
theorem RunI.mono {X : Cx} {tg e : Expr} {σ : L2.St} {H : Hp} {R R' : It → Hp → Prop} (h : RunI X tg e σ H R) (k : ∀ J H', R J H' → R' J H') : RunI X tg e σ H R' := fun pins s I =>
  wpAny_mono (h pins s I) (fun _ _ q => wpAny_mono q (fun _ _ ⟨it, fp, tn, J, H', a, b, c, d, e, f⟩ => ⟨it, fp, tn, J, H', a, b, c, d, e, k _ _ f⟩) fun _ _ x => x) fun _ _ x => x
/-- the iterable e yields data -/
def WI (X : Cy) (tg e : Expr) (r : Env2) (G : GD) (Q : List D → Env2 → GD → Prop) : Prop :=
  ∀ (F0 T F H : Hp) (σ : L2.St), Lk X F0 T → Sta X.K F0 T F G H r σ → RunI X tg e σ H fun J H' => ∃ ds r' G' F', Ex F F' ∧ Sta X.K F0 T F' G' H' r' σ ∧ ItD X.K J F' ds ∧ Q ds r' G'
theorem WI.mono {Q Q' : List D → Env2 → GD → Prop} (h : WI X tg e r G Q) (k : ∀ x r' G', Q x r' G' → Q' x r' G') : WI X tg e r G Q' := fun F0 T F H σ lk S =>
  (h F0 T F H σ lk S).mono fun _ _ ⟨x, r', G', F', a, b, c, q⟩ => ⟨x, r', G', F', a, b, c, k _ _ _ q⟩
theorem wi_lst {Q : List D → Env2 → GD → Prop} (h : WE X e r G fun x r1 G1 => ∃ ds r2, fz r1 x = some (.lst ds, r2) ∧ (ds.length ≤ LIM → Q ds r2 G1)) : WI X tg e r G Q := fun F0 T F H σ lk S =>
  RunI.of (pi_list peR) ((h F0 T F H σ lk S).bl.mono fun v H1 ⟨bl, x, r1, G1, F1, e1, S1, k1, ds, r2, q1, q2⟩ => by
    obtain ⟨Fa, e2, Sa, rp⟩ := S1.fz k1 q1
    obtain ⟨a, vs, rfl, z1, z2⟩ := rp
    have hlim : ds.length ≤ LIM := by rw [← z2.length]; exact bl.1 a vs (.inl (Sa.bas.fh.rd z1))
    refine ⟨a, rfl, ⟨vs, .inl (Sa.bas.fh.rd z1)⟩, ds, r2, G1, Fa, e1.trans e2, Sa, fun F H ea eh => ⟨⟨vs, .inl (eh.rd (ea.rd z1)), by rw [z2.length]; exact Nat.le_refl _⟩, fun i d hi => ?_⟩, q2 hlim⟩
    obtain ⟨v, h1, h2⟩ := z2.get hi
    exact ⟨⟨vs, v, .inl (eh.rd (ea.rd z1)), h1⟩, fun x H' ⟨y1, y2⟩ => .inl ⟨y1, by
      have := y2 vs (.inl (eh.rd (ea.rd z1)))
      rw [h1] at this; cases this
      exact Rep.mono ea _ _ h2⟩⟩)
theorem wi_tup {Q : List D → Env2 → GD → Prop} (h : WE X e r G fun x r1 G1 => ∃ ds r2, fz r1 x = some (.tup ds, r2) ∧ (ds.length ≤ LIM → Q ds r2 G1)) : WI X tg e r G Q := fun F0 T F H σ lk S =>
  RunI.of (pi_tup peR) ((h F0 T F H σ lk S).bl.mono fun v H1 ⟨bl, x, r1, G1, F1, e1, S1, k1, ds, r2, q1, q2⟩ => by
    obtain ⟨Fa, e2, Sa, rp⟩ := S1.fz k1 q1
    obtain ⟨a, vs, rfl, z1, z2⟩ := rp
    have hlim : ds.length ≤ LIM := by rw [← z2.length]; exact bl.2.1 a vs (Sa.bas.fh.sqT z1)
    refine ⟨a, rfl, ⟨vs, Sa.bas.fh.sqT z1⟩, ds, r2, G1, Fa, e1.trans e2, Sa, fun F H ea eh => ⟨⟨vs, eh.sqT (ea.sqT z1), by rw [z2.length]; exact Nat.le_refl _⟩, fun i d hi => ?_⟩, q2 hlim⟩
    obtain ⟨v, h1, h2⟩ := z2.get hi
    exact ⟨⟨vs, v, eh.sqT (ea.sqT z1), h1⟩, fun x H' ⟨y1, y2⟩ => .inl ⟨y1, by
      have := y2 vs (eh.sqT (ea.sqT z1))
      rw [h1] at this; cases this
      exact Rep.mono ea _ _ h2⟩⟩)
def rgI (a b : Int) : List Int := (List.range (b - a).toNat).map fun i => a + (i : Nat)
theorem rgI_length (a b : Int) : (rgI a b).length = (b - a).toNat := by unfold rgI; rw [List.length_map, List.length_range]
theorem rgI_get {a b : Int} {i : Nat} {x : Int} (h : (rgI a b)[i]? = some x) : i < (b - a).toNat ∧ x = a + (i : Nat) := by
  unfold rgI at h
  rw [List.getElem?_map] at h
  cases q : (List.range (b - a).toNat)[i]? with
  | none => rw [q] at h; cases h
  | some j =>
    rw [q] at h
    obtain ⟨z1, z2⟩ := List.getElem?_eq_some_iff.mp q
    rw [List.length_range] at z1
    rw [List.getElem_range] at z2
    subst z2
    exact ⟨z1, by simpa using h.symm⟩
theorem itd_range {K : PySem.W.Frag} {Fa : Hp} {lo hi : Int} {n : Nat} (hn : n = (hi - lo).toNat) : ItD K (Itr lo n) Fa ((rgI lo hi).map D.int) := fun F H ea eh =>
  ⟨by rw [List.length_map, rgI_length, ← hn]; exact Nat.le_refl _, fun i d hd => by
    rw [List.getElem?_map] at hd
    cases q : (rgI lo hi)[i]? with
    | none => rw [q] at hd; cases hd
    | some x =>
      rw [q] at hd
      obtain ⟨z1, rfl⟩ := rgI_get q
      cases hd
      exact ⟨by rw [hn]; exact z1, fun y H' ⟨y1, y2⟩ => .inl ⟨y1, y2⟩⟩⟩
abbrev RG (n : Int) : Prop := -(2 ^ 62) ≤ n ∧ n < 2 ^ 62
theorem wi_rng1 {Q : List D → Env2 → GD → Prop} (hg : Gl X "range") (hm : X.mg "range" = none)
    (h : WE X a r G fun x r1 G1 => ∃ n, vw r1 x = some (.int n) ∧ RG n ∧ Q ((rgI 0 n).map D.int) r1 G1) (hst : starEach [a] X.env = [(false, eval a X.env)] := by rfl) : WI X tg (.Call (.Name "range" p0) [a] [] pos) r G Q := fun F0 T F H σ lk S =>
  RunI.of (pi_range1 hg hm (pa_cons peR pa_nil hst) hst) ((h F0 T F H σ lk S).mono fun v H1 ⟨x, r1, G1, F1, e1, S1, k1, n, q1, hn, q2⟩ =>
    ⟨n, by rw [(S1.view k1 q1).int], hn.1, hn.2, _, r1, G1, F1, e1, S1, itd_range (by rw [Int.sub_zero]), q2⟩)
theorem wi_rng2 {Q : List D → Env2 → GD → Prop} (hg : Gl X "range") (hm : X.mg "range" = none)
    (h : WE X a r G fun x r1 G1 => WE X b r1 G1 fun y r2 G2 => ∃ lo n, vw r2 x = some (.int lo) ∧ vw r2 y = some (.int n) ∧ RG lo ∧ RG n ∧ Q ((rgI lo n).map D.int) r2 G2)
    (hst : starEach [a, b] X.env = [(false, eval a X.env), (false, eval b X.env)] := by rfl) (hst2 : starEach [b] X.env = [(false, eval b X.env)] := by rfl) : WI X tg (.Call (.Name "range" p0) [a, b] [] pos) r G Q := fun F0 T F H σ lk S =>
  RunI.of (pi_range2 hg hm (pa_cons peR (pa_cons peR pa_nil (by rw [hst2]; rfl)) (by rw [hst, hst2])) hst hst2) ((h F0 T F H σ lk S).mono fun v H1 ⟨x, r1, G1, F1, e1, S1, k1, h1⟩ => by
    obtain ⟨F1', e1', S1', hv⟩ := hold S1 k1
    refine (h1 F0 T F1' H1 σ lk S1').mono fun v2 H2 ⟨y, r2, G2, F2, e2, S2, k2, lo, n, q1, q2, hl, hn, q3⟩ => ?_
    exact ⟨lo, n, by rw [(hv F2 G2 H2 r2 _ e2 S2 (.inl q1)).int, (S2.view k2 q2).int], ⟨hl.1, hl.2, hn.1, hn.2⟩, _, r2, G2, F2, (e1.trans e1').trans e2, S2, itd_range rfl, q3⟩)
theorem ws_for {is : List Nat} (hp : PassesOwn (model X.prog X.w) X.A X.env X.xe) (hc : X.calm = true)
    (h : WI X tg e r G fun ds r2 G1 => ∃ I : Nat → Env2 → GD → Prop, I 0 r2 G1 ∧ (∀ (k : Nat) (d : D) (r3 : Env2) (G3 : GD), ds[k]? = some d → I k r3 G3 → WG X tg d r3 G3 is fun r4 G4 => WB X body r4 G4 { D0 with nx := I (k + 1), ct := I (k + 1), bk := D0.nx }) ∧
      ∀ r3 G3, I ds.length r3 G3 → D0.nx r3 G3) (hs : ∀ x, foldedSetIterable e X.env x = pure x := by intro _; rfl) : WS X (.For tg e body [] pos) r G D0 := fun F0 T F H σ lk S =>
  RunS.of (ps_for hp hc piR pgR pbR hs) ((h F0 T F H σ lk S).mono fun J H1 ⟨ds, r2, G1, Fa, e1, Sa, hJ, I, i0, it, ie⟩ => by
    refine ⟨fun i m σ' H' => m = ds.length - i ∧ i ≤ ds.length ∧ PostN X.K Fa T (I i) σ' H', ⟨ds.length, by simp, Nat.zero_le _, r2, G1, Fa, Sa.base, i0⟩, ?_⟩
    rintro i m σ' H' ⟨rfl, hi, r', G', F', S', q'⟩
    obtain ⟨j1, j2⟩ := hJ F' H' S'.bas.ff S'.bas.fh
    by_cases hlt : i < ds.length
    · obtain ⟨j3, _⟩ := j2 i ds[i] (List.getElem?_eq_getElem hlt)
      refine .inr ⟨j3, fun σ' H' => PostN X.K Fa T (I (i + 1)) σ' H', fun σ2 H2 p2 => ⟨ds.length - (i + 1), by omega, rfl, hlt, p2⟩, fun x H2 y => ?_⟩
      obtain ⟨F2, ef, S2, rp⟩ := hJ.item S'.bas.ff S' (List.getElem?_eq_getElem hlt) y
      exact turn1 lk Sa.bas S2 rp (it i ds[i] r' G' (List.getElem?_eq_getElem hlt) q') fun _ _ z => z
    · have e : i = ds.length := by omega
      subst e
      exact .inl ⟨j1, at_back Sa.bas ⟨r', G', F', S', ie r' G' q'⟩⟩)
abbrev FSp := List D → GD → (Res → GD → Prop) → (Exn → GD → Prop) → Prop
/-- what others hold at a call -/
def Tof (G : GD) (H : Hp) : Hp := fun a => match G a with
  | none => H a
  | some _ => none
theorem Tof_none {G : GD} {H : Hp} {a : Addr} (h : G a = none) : Tof G H a = H a := by unfold Tof; rw [h]
theorem Tof_some {G : GD} {H : Hp} {a : Addr} {o : D} (h : G a = some o) : Tof G H a = none := by unfold Tof; rw [h]
/-- a def's promise over data -/
def spD (K : PySem.W.Frag) (f : FSp) : Sp := fun vs H Q E => ∃ (F : Hp) (G : GD) (ds : List D) (post : Res → GD → Prop) (px : Exn → GD → Prop), Ex F H ∧ (∀ a d, G a = some d → Own K F H a d) ∧ (∀ a o, G a = some o → F a = none) ∧ RepL K F ds vs ∧ f ds G post px ∧
  (∀ x G' v H' F', post x G' → Bas K F (Tof G H) F' G' H' → RtOk K (Tof G H) F' G' H' x v → Q v H') ∧ ∀ x cls d G' H' F', px x G' → Bas K F (Tof G H) F' G' H' → ExOk K F' cls d x → E cls d H'
/-- behind a call the caller's state stands -/
theorem Sta.after {K : PySem.W.Frag} {F0 T F : Hp} {G : GD} {H F' : Hp} {G' : GD} {H' : Hp} {r : Env2} {σ : L2.St} (S : Sta K F0 T F G H r σ) (B : Bas K F (Tof G H) F' G' H') : Sta K F0 T F' G' H' r σ := by
  have tt : ∀ a o, T a = some o → Tof G H a = some o := fun a o h => by
    have hg : G a = none := by
      cases e : G a with
      | none => rfl
      | some u => rw [S.bas.gt a u e] at h; cases h
    rw [Tof_none hg]
    exact S.bas.tk a o h
  refine S.grow ⟨S.bas.ff.trans B.ff, fun a o h => ?_, B.fh, B.gh, B.fg, fun a o h => ?_, fun a o h => B.tk a o (tt a o h)⟩ B.ff fun p h1 h2 h3 ⟨u, hu⟩ => ?_
  · rcases B.ft a o h with z | z
    · exact S.bas.ft a o z
    · cases e : T a with
      | none => exact .inr rfl
      | some u => rw [tt a u e] at z; cases z
  · cases e : T a with
    | none => rfl
    | some u =>
      have z := B.gt a o h
      rw [tt a u e] at z; cases z
  · have hT : Tof G H p = some u := by rw [Tof_none h2]; exact hu
    refine ⟨fun o ho => by rw [hu] at ho; cases ho; exact B.tk p u hT, ?_, ?_, h3⟩
    · cases e : F' p with
      | none => rfl
      | some w =>
        rcases B.ft p w e with z | z
        · rw [h1] at z; cases z
        · rw [hT] at z; cases z
    · cases e : G' p with
      | none => rfl
      | some w => have z := B.gt p w e; rw [hT] at z; cases z
theorem ResOk.after {K : PySem.W.Frag} {F0 T F : Hp} {G : GD} {H F' : Hp} {G' : GD} {H' : Hp} {r : Env2} {σ : L2.St} {x : Res} {v : V} (S : Sta K F0 T F G H r σ) (B : Bas K F (Tof G H) F' G' H') (h : RtOk K (Tof G H) F' G' H' x v) : ResOk K T F' G' H' r σ x v := by
  cases x with
  | sh d => exact h
  | pk i => exact h.elim
  | fr d =>
    obtain ⟨p, rfl, h2, h3, h4, h5⟩ := h
    refine ⟨p, rfl, h2, h3, h4, ?_, fun i e he z => ?_⟩
    · cases e : T p with
      | none => rfl
      | some u =>
        have hg : G p = none := by
          cases eg : G p with
          | none => rfl
          | some w => rw [S.bas.gt p w eg] at e; cases e
        rw [Tof_none hg, S.bas.tk p u e] at h5; cases h5
    · obtain ⟨q, z1, z2, z3, z4, z5⟩ := S.ownS he
      rw [z] at z1; cases z1
      obtain ⟨o, ho⟩ := z2.there
      rw [Tof_none z4, ho] at h5; cases h5
/-- a promise met from a state -/
theorem spD_of {F0 T F F1 H : Hp} {σ : L2.St} {sp : FSp} {ds : List D} {vs : List V} {Q : Res → Env2 → GD → Prop} (lk : Lk X F0 T) (S : Sta X.K F0 T F1 G H r σ) (e1 : Ex F F1) (ha : RepL X.K F1 ds vs) (h : sp ds G (fun z G2 => Q z r G2) (fun x G2 => X.QX x r G2)) : spD X.K sp vs H (PostE X.K F0 T F σ Q) (L2.WE X.WX σ) :=
  ⟨F1, G, ds, _, _, S.bas.fh, S.bas.gh, S.bas.fg, ha, h, fun x G' v H' F' hp B rt => ⟨x, r, G', F', e1.trans B.ff, S.after B, ResOk.after S B rt, hp⟩, fun x cls d G' H' F' hp B ex => ⟨r, G', F', x, lk.sta (S.after B), ex, hp⟩⟩
theorem we_call {f : Addr} {fd : FuncData} {ps : List Str} {sp : FSp} {k : Nat} {x : Str} {Q : Res → Env2 → GD → Prop} (tk : X.Tk) (Fo : FnOk X.prog X.w X.K X.mg X.base (CX X.prog X.w) k f fd ps (spD X.K sp)) (hr : Room k X.A) (hg : Gl X x) (hm : X.mg x = some (.ref f)) (hk : PySem.W.keepIn X.K (.ref f) = true) (hb : Binds X.K fd ps [])
    (h : WA X (e :: es) r G fun ds r1 G1 => sp ds G1 (fun z G2 => Q z r1 G2) (fun x G2 => X.QX x r1 G2))
    (hdb : (x == ("__debug__" : Str)) = false := by decide) (he : starEach (e :: es) X.env = (false, eval e X.env) :: starEach es X.env := by rfl) (hpl : (backTo pos (starEach es X.env)).any (·.1) = false := by rfl) : WE X (.Call (.Name x p0) (e :: es) [] pos) r G Q := fun F0 T F H σ lk S =>
  Run.of (pe_callS Fo hr hg hm hk hb (fun σ => passAt tk σ) paR hdb he hpl) ((h F0 T F H σ lk S).mono fun vs H1 ⟨ds, r1, G1, F1, e1, S1, k1, q⟩ => spD_of lk S1 e1 k1 q)
end
def startD (N : List Str) (ds : List D) : Env2 := ds.map .sh ++ List.replicate (N.length - ds.length) .no
theorem sta_start {K : PySem.W.Frag} {F : Hp} {G : GD} {H : Hp} {N : List Str} {ds : List D} {vs : List V} (hl : ds.length ≤ N.length) (e1 : Ex F H) (e2 : ∀ a d, G a = some d → Own K F H a d) (e3 : ∀ a o, G a = some o → F a = none) (h : RepL K F ds vs) : Sta K F (Tof G H) F G H (startD N ds) (L2.start N vs) := by
  have hv := h.length
  refine ⟨⟨Ex.refl _, fun _ _ z => .inl z, e1, e2, e3, fun a o z => Tof_some z, fun a o z => ?_⟩, ?_, fun i s z => ?_, fun i j d e _ z => ?_⟩
  · unfold Tof at z
    split at z
    · exact z
    · cases z
  · unfold startD L2.start
    simp only [List.length_append, List.length_map, List.length_replicate, hv]
  · unfold startD at z
    by_cases hi : i < ds.length
    · rw [List.getElem?_append_left (by simpa using hi), List.getElem?_map, List.getElem?_eq_getElem hi] at z
      cases z
      obtain ⟨v, q1, q2⟩ := h.get (List.getElem?_eq_getElem hi)
      refine ⟨v, ?_, q2⟩
      unfold L2.start
      rw [List.getElem?_append_left (by rw [List.length_map, hv]; exact hi), List.getElem?_map, q1]
      rfl
    · rw [List.getElem?_append_right (by simpa using hi), List.getElem?_replicate] at z
      split at z
      · cases z; trivial
      · cases z
  · exfalso
    unfold startD at z
    by_cases hi : i < ds.length
    · rw [List.getElem?_append_left (by simpa using hi), List.getElem?_map, List.getElem?_eq_getElem hi] at z
      cases z
    · rw [List.getElem?_append_right (by simpa using hi), List.getElem?_replicate] at z
      split at z
      · cases z
      · cases z
section
variable {P : Program} {w : World} {K : PySem.W.Frag} {mg : Str → Option Value} {base : Heap}
/-- the context of a def's body -/
def cyOf (P : Program) (w : World) (K : PySem.W.Frag) (mg : Str → Option Value) (base : Heap) (N : List Str) (qual : Str) (scope : Scope) (f : Addr) (cd : Value) (A : Around) (outer : List Env) (s : Shared) (H : Hp) (E : XK) (F T : Hp) (px : Exn → GD → Prop) : Cy :=
  { L2.cxOf (L2.CX P w) P w K mg base N qual scope f cd A outer s H E with F0 := F, T := T, QX := fun x _ G => px x G }
theorem def_ok {x qual : Str} {st : Stmt} {f : Addr} {fd : FuncData} {N ps : List Str} {k : Nat} {sp : FSp} (Fo : Fun K x qual st f fd) (S : FnScope N ps (defScope st)) (len : ∀ ds G post px, sp ds G post px → ds.length = ps.length)
    (hbody : ∀ (cdv : Value) (A : Around) (outer : List Env) (s : Shared) (H : Hp) (E : XK) (F T : Hp), Room k (A.deeper (envOfC qual (defScope st) s.heap.objs.size f cdv)) → ∀ (ds : List D) (G : GD) (post : Res → GD → Prop) (px : Exn → GD → Prop), sp ds G post px →
      (cyOf P w K mg base N qual (defScope st) f cdv A outer s H E F T px).Tk → PassesOwn (model P w) (cyOf P w K mg base N qual (defScope st) f cdv A outer s H E F T px).A (cyOf P w K mg base N qual (defScope st) f cdv A outer s H E F T px).env (cyOf P w K mg base N qual (defScope st) f cdv A outer s H E F T px).xe →
      WB (cyOf P w K mg base N qual (defScope st) f cdv A outer s H E F T px) (defBody st) (startD N ds) G { nx := fun _ G' => post (.sh .non) G', rt := post }) : FnOk P w K mg base (L2.CX P w) (k + 1) f fd ps (spD K sp) := by
  refine Fo.okX S (fun vs H Q E h => ?_) (fun cdv A outer s H vs Q E hr h => ?_)
  · obtain ⟨F, G, ds, post, px, _, _, _, rp, hf, _⟩ := h
    rw [rp.length, len ds G post px hf]
  · obtain ⟨F, G, ds, post, px, e1, e2, e3, rp, hf, hq, hx⟩ := h
    have hl : ds.length ≤ N.length := by
      rw [len ds G post px hf]
      have := congrArg List.length S.pre
      rw [List.length_take] at this
      omega
    refine ⟨RunB _ (defBody st), pbR, ?_⟩
    have tk : (cyOf P w K mg base N qual (defScope st) f cdv A outer s H E F (Tof G H) px).Tk := (takes_of (E := E) rfl rfl rfl rfl).imp fun cls d σ H' ⟨r, G', F', x, S', ex, q⟩ => hx x cls d G' H' F' q S'.bas ex
    refine (hbody cdv A outer s H E F (Tof G H) hr ds G post px hf tk (passes_of rfl) F (Tof G H) F H (L2.start N vs) ⟨Ex.refl _, Ex.refl _, fun _ _ z => .inl z⟩ (sta_start hl e1 e2 e3 rp)).mono (fun σ' H' ⟨r', G', F', S', q⟩ => ?_) (fun v H' ⟨x, G', F', B, rt, q⟩ => hq x G' v H' F' q B rt) (fun _ _ ⟨_, _, _, _, q⟩ => q) (fun _ _ ⟨_, _, _, _, q⟩ => q)
    exact hq (.sh .non) G' .non H' F' q S'.bas rfl
end
theorem Sta.mut {K : PySem.W.Frag} {F0 T F : Hp} {G : GD} {H : Hp} {r : Env2} {σ : L2.St} (S : Sta K F0 T F G H r σ) {i : Nat} {d0 : D} (h : r[i]? = some (.own d0)) :
    ∃ p, σ[i]? = some (some (.ref p)) ∧ Own K F H p d0 ∧ F p = none ∧ ∀ (o' : HO) (d' : D), Own K F (upd H p o') p d' → Sta K F0 T F G (upd H p o') (r.set i (.own d')) σ := by
  obtain ⟨p, h1, h2, h3, h4, h5⟩ := S.ownS h
  have hi : i < r.length := (List.getElem?_eq_some_iff.mp h).1
  refine ⟨p, h1, h2, h3, fun o' d' ho => ⟨S.bas.put h3 h4 h5, by rw [List.length_set]; exact S.len, fun j s e => ?_, fun j k d e hjk ej ek => ?_⟩⟩
  · by_cases hj : i = j
    · subst hj
      rw [List.getElem?_set_self hi] at e
      cases e
      exact ⟨p, h1, ho, h3, h4, h5⟩
    · rw [List.getElem?_set_ne hj] at e
      have q := S.sl j s e
      cases s with
      | no => trivial
      | sh d => exact q
      | own d =>
        obtain ⟨p', q1, q2, q3, q4, q5⟩ := q
        have hpp : p' ≠ p := fun z => by
          subst z
          exact S.ap i j d0 d hj h e (h1.trans q1.symm)
        exact ⟨p', q1, q2.mono (Ex.refl _) fun u hu => by rw [upd_ne hpp]; exact hu, q3, q4, q5⟩
  · have own : ∀ (m : Nat) (x : D), (r.set i (.own d'))[m]? = some (.own x) → ∃ y, r[m]? = some (.own y) := fun m x hm => by
      by_cases hm2 : i = m
      · subst hm2; exact ⟨d0, h⟩
      · rw [List.getElem?_set_ne hm2] at hm; exact ⟨x, hm⟩
    obtain ⟨y1, hy1⟩ := own j d ej
    obtain ⟨y2, hy2⟩ := own k e ek
    exact S.ap j k y1 y2 hjk hy1 hy2
section
variable {X : Cy} {e e2 a b c o tg : Expr} {es : List Expr} {st : Stmt} {sts rest body orelse : List Stmt} {r : Env2} {G : GD} {pos apos cpos p0 : Pos} {D0 : EndsD}
/-- what a method does to an own list: the answer, the new content -/
def MutW (X : Cy) (id : String) (ds args : List D) (Kt : D → List D → Prop) : Prop :=
  ∀ (F H : Hp) (p : Addr) (vs us : List V), H p = some (.lst vs) → F p = none → Ex F H → RepL X.K F ds vs → RepL X.K F args us →
    ∃ rr, MtR X id rr ∧ rr (.ref p) us H (fun v' H' => ∃ vs' res ds', H' = upd H p (.lst vs') ∧ Rep X.K F res v' ∧ RepL X.K F ds' vs' ∧ Kt res ds')
def mtU (X : Cy) (id : String) : V → List V → Hp → VK → Prop := fun x xs H Q => ∃ rr, MtR X id rr ∧ rr x xs H Q
theorem mtU_ok {id : String} : MtR X id (mtU X id) := fun pins s σ H x xs v us Q I rx rv ⟨rr, h1, h2⟩ => h1 pins s σ H x xs v us Q I rx rv h2
theorem MtR.post {id : String} {rr : V → List V → Hp → VK → Prop} (h : MtR X id rr) (P : VK) : MtR X id (fun x xs H Q' => rr x xs H P ∧ ∀ v H', P v H' → Q' v H') := fun pins s σ H x xs v us Q' I rx rv ⟨q, m⟩ =>
  wpAny_mono (h pins s σ H x xs v us P I rx rv q) (fun _ _ ⟨v, H', I', rl, q⟩ => ⟨v, H', I', rl, m v H' q⟩) fun _ _ x => x
theorem mut_end {id : String} {ds args : List D} {i : Nat} {F0 T F F1 H : Hp} {σ : L2.St} {v : V} {us : List V} {Q : Res → Env2 → GD → Prop} (e1 : Ex F F1) (S : Sta X.K F0 T F1 G H r σ) (hi : r[i]? = some (.own (.lst ds))) (hv : σ[i]? = some (some v)) (ha : RepL X.K F1 args us)
    (h : MutW X id ds args fun res ds' => Q (.sh res) (r.set i (.own (.lst ds'))) G) : mtU X id v us H (PostE X.K F0 T F σ Q) := by
  obtain ⟨p, h1, ⟨vs, h2, h3⟩, h4, h5⟩ := S.mut hi
  rw [hv] at h1; cases h1
  obtain ⟨rr, k1, k2⟩ := h F1 H p vs us h2 h4 S.bas.fh h3 ha
  refine ⟨_, MtR.post k1 _, k2, fun v' H' ⟨vs', res, ds', z1, z2, z3, z4⟩ => ?_⟩
  subst z1
  exact ⟨.sh res, _, G, F1, e1, h5 _ (.lst ds') ⟨vs', upd_same, z3⟩, z2, z4⟩
theorem we_m1 {name : Str} {id : String} {Q : Res → Env2 → GD → Prop} (pa : PlainAttrs "list") (slot : Slot "list" name id) (hty : typeOf (.builtin id) = pure (.type "method_descriptor"))
    (h : WE X o r G fun x r1 G1 => ∃ i ds0, x = .pk i ∧ r1[i]? = some (.own (.lst ds0)) ∧ WE X e r1 G1 fun y r2 G2 => ∃ d r3 ds, fz r2 y = some (d, r3) ∧ r3[i]? = some (.own (.lst ds)) ∧ MutW X id ds [d] fun res ds' => Q (.sh res) (r3.set i (.own (.lst ds'))) G2)
    (hbase : attributeBase o name X.env (eval o X.env) = eval o X.env := by rfl)
    (hfew : ((backTo cpos (starEach [e] X.env)).all (fun x => !x.1) && (backToKw cpos (keywordEach [] X.env)).all (fun x => x.1.isSome) && decide (([e] : List Expr).length + ([] : List Keyword).length + (if ([] : List Keyword).isEmpty then 0 else 1) < 30)) = true := by rfl)
    (hline : (apos.endLine == cpos.line) = true := by rfl) (hs : starEach [e] X.env = (false, eval e X.env) :: starEach [] X.env := by rfl) (hplain : (backTo cpos (starEach [] X.env)).any (·.1) = false := by rfl) :
    WE X (.Call (.Attribute o name apos) [e] [] cpos) r G Q := fun F0 T F H σ lk S =>
  Run.of (pe_bm pa slot hty mtU_ok peR (pa_cons peR pa_nil hs) hbase hfew hline hs hplain) ((h F0 T F H σ lk S).mono fun v H1 ⟨x, r1, G1, F1, e1, S1, k1, i, ds0, hx, hi0, h1⟩ => by
    subst hx
    obtain ⟨hv, _⟩ := k1
    obtain ⟨p, h1', ⟨vs, h2, h3⟩, _⟩ := S1.mut hi0
    rw [hv] at h1'; cases h1'
    refine ⟨.inl ⟨rfl, vs, .inl (.inl h2)⟩, (h1 F0 T F1 H1 σ lk S1).mono fun w H2 ⟨y, r2, G2, F2, e2, S2, k2, d, r3, ds, q1, q2, q3⟩ => ?_⟩
    obtain ⟨F3, e3, S3, rp⟩ := S2.fz k2 q1
    exact mut_end ((e1.trans e2).trans e3) S3 q2 hv (.one rp) q3)
theorem mw_append {ds : List D} {d : D} {Kt : D → List D → Prop} (hl : ds.length < LIM) (k : Kt .non (ds ++ [d])) : MutW X "list.append" ds [d] Kt := fun F H p vs us hp hf ex h1 h2 => by
  obtain ⟨v, u', rfl, h3, h4⟩ := h2
  cases (show u' = [] from h4)
  exact ⟨_, mt_append, p, vs, v, rfl, rfl, hp, by rw [h1.length]; exact lim_lt hl, vs ++ [v], .non, ds ++ [d], rfl, rfl, h1.append (.one h3), k⟩
def rExtendR : V → List V → Hp → VK → Prop := fun x vs H Q => ∃ l b xs zs, x = .ref l ∧ vs = [.ref b] ∧ H l = some (.lst xs) ∧ Rd H b (.lst zs) ∧ xs.length + zs.length ≤ sizeLine ∧ Q .non (upd H l (.lst (xs ++ zs)))
theorem mt_extendR {X : Cx} : MtR X "list.extend" rExtendR := by
  intro pins s σ H x vs v us Q I rx rv h
  obtain ⟨l, b, xs, zs, rfl, rfl, hH, hB, hz, q⟩ := h
  cases rx
  obtain ⟨u, rfl, ru⟩ := rv.one
  cases ru
  obtain ⟨z, its, n, r, hl, e⟩ := I.lstM hH
  obtain ⟨z2, its2, n2, r2, e2⟩ := lst_of I hB
  have hl2 := r2.length
  have hsz : its.toArray.size + its2.toArray.size ≤ sizeLine := by rw [List.size_toArray, List.size_toArray]; omega
  have hlong : ¬ (!its.toArray.isEmpty && Builtin.List.listTooLong (its.toArray.size + its2.toArray.size)) = true := by
    rw [notLongL hsz, Bool.and_false]
    exact Bool.false_ne_true
  refine call_meets F.slot_list_extend ⟨_, e, rfl⟩ F.entry_list_extend (F.args_list_extend_2 _ _)
    (AutoSeq1.list_extend_list_list_0 l its.toArray n b its2.toArray n2 hlong (by rw [List.size_toArray]; omega) (by omega)) ⟨e, e2, ?_⟩
  refine ⟨.non, _, I.lset (its' := its ++ its2) hH e (by simp) (r.append r2) ?_, rfl, q⟩
  rw [List.length_append]
  omega
theorem mw_extend {ds es : List D} {Kt : D → List D → Prop} (hl : ds.length + es.length ≤ LIM) (k : Kt .non (ds ++ es)) : MutW X "list.extend" ds [.lst es] Kt := fun F H p vs us hp hf ex h1 h2 => by
  obtain ⟨v, u', rfl, ⟨q, ws, rfl, h5, h6⟩, h4⟩ := h2
  cases (show u' = [] from h4)
  exact ⟨_, mt_extendR, p, q, vs, ws, rfl, rfl, hp, ex.rd h5, by rw [h1.length, h6.length]; exact lim_ok hl, vs ++ ws, .non, ds ++ es, rfl, rfl, h1.append h6, k⟩
theorem we_append {Q : Res → Env2 → GD → Prop}
    (h : WE X o r G fun x r1 G1 => ∃ i ds0, x = .pk i ∧ r1[i]? = some (.own (.lst ds0)) ∧ WE X e r1 G1 fun y r2 G2 => ∃ d r3 ds, fz r2 y = some (d, r3) ∧ r3[i]? = some (.own (.lst ds)) ∧ ds.length < LIM ∧ Q (.sh .non) (r3.set i (.own (.lst (ds ++ [d])))) G2)
    (hbase : attributeBase o "append" X.env (eval o X.env) = eval o X.env := by rfl)
    (hfew : ((backTo cpos (starEach [e] X.env)).all (fun x => !x.1) && (backToKw cpos (keywordEach [] X.env)).all (fun x => x.1.isSome) && decide (([e] : List Expr).length + ([] : List Keyword).length + (if ([] : List Keyword).isEmpty then 0 else 1) < 30)) = true := by rfl)
    (hline : (apos.endLine == cpos.line) = true := by rfl) (hs : starEach [e] X.env = (false, eval e X.env) :: starEach [] X.env := by rfl) (hplain : (backTo cpos (starEach [] X.env)).any (·.1) = false := by rfl) :
    WE X (.Call (.Attribute o "append" apos) [e] [] cpos) r G Q :=
  we_m1 PySem.F.plainAttrs_list PySem.F.slot_list_append PySem.F.type_list_append (h.mono fun x r1 G1 ⟨i, ds0, h1, h2, h3⟩ => ⟨i, ds0, h1, h2, h3.mono fun y r2 G2 ⟨d, r3, ds, k1, k2, k3, k4⟩ => ⟨d, r3, ds, k1, k2, mw_append k3 k4⟩⟩) hbase hfew hline hs hplain
theorem we_extend {Q : Res → Env2 → GD → Prop}
    (h : WE X o r G fun x r1 G1 => ∃ i ds0, x = .pk i ∧ r1[i]? = some (.own (.lst ds0)) ∧ WE X e r1 G1 fun y r2 G2 => ∃ zs r3 ds, fz r2 y = some (.lst zs, r3) ∧ r3[i]? = some (.own (.lst ds)) ∧ ds.length + zs.length ≤ LIM ∧ Q (.sh .non) (r3.set i (.own (.lst (ds ++ zs)))) G2)
    (hbase : attributeBase o "extend" X.env (eval o X.env) = eval o X.env := by rfl)
    (hfew : ((backTo cpos (starEach [e] X.env)).all (fun x => !x.1) && (backToKw cpos (keywordEach [] X.env)).all (fun x => x.1.isSome) && decide (([e] : List Expr).length + ([] : List Keyword).length + (if ([] : List Keyword).isEmpty then 0 else 1) < 30)) = true := by rfl)
    (hline : (apos.endLine == cpos.line) = true := by rfl) (hs : starEach [e] X.env = (false, eval e X.env) :: starEach [] X.env := by rfl) (hplain : (backTo cpos (starEach [] X.env)).any (·.1) = false := by rfl) :
    WE X (.Call (.Attribute o "extend" apos) [e] [] cpos) r G Q :=
  we_m1 PySem.F.plainAttrs_list PySem.F.slot_list_extend PySem.F.type_list_extend (h.mono fun x r1 G1 ⟨i, ds0, h1, h2, h3⟩ => ⟨i, ds0, h1, h2, h3.mono fun y r2 G2 ⟨zs, r3, ds, k1, k2, k3, k4⟩ => ⟨.lst zs, r3, ds, k1, k2, mw_extend k3 k4⟩⟩) hbase hfew hline hs hplain
def Cy.blk (X : Cy) (s : Shared) (H : Hp) (scope : Scope) (env : Env) (fp : List Addr) : Cy := { X.toCx.blk s H scope env fp with F0 := X.F0, T := X.T, QX := fun _ _ _ => False }
def BlkX (X : Cy) (scope : Scope) (Y : Cy) : Prop := ∃ (s : Shared) (H : Hp) (C : Addr) (cl : List (Str × Addr)) (fp : List Addr), Y = X.blk s H scope (compEnvC scope cl C X.env) fp
theorem BlkX.k {scope : Scope} {Y : Cy} (h : BlkX X scope Y) : Y.K = X.K := by obtain ⟨_, _, _, _, _, rfl⟩ := h; rfl
theorem BlkX.lk {scope : Scope} {Y : Cy} {F0 T : Hp} (h : BlkX X scope Y) (lk : Lk X F0 T) : Lk Y F0 T := by obtain ⟨_, _, _, _, _, rfl⟩ := h; exact ⟨lk.t, lk.f, lk.ft⟩
theorem BlkX.tk {scope : Scope} {Y : Cy} (h : BlkX X scope Y) : Y.Tk := by
  obtain ⟨_, _, _, _, _, rfl⟩ := h
  exact takes0.imp fun _ _ _ _ ⟨_, _, _, _, _, _, z⟩ => z
def wipeD (r : Env2) : List Nat → Env2
  | [] => r
  | i :: is => (wipeD r is).set i .no
theorem wipeD_len (r : Env2) : ∀ is, (wipeD r is).length = r.length
  | [] => rfl
  | i :: is => by unfold wipeD; rw [List.length_set, wipeD_len r is]
theorem Sta.wipe {K : PySem.W.Frag} {F0 T F : Hp} {G : GD} {H : Hp} {r : Env2} {σ σ' : L2.St} (S : Sta K F0 T F G H r σ') : ∀ (is : List Nat), L2.wipe σ' is = L2.wipe σ is → Sta K F0 T F G H (wipeD r is) (L2.wipe σ is) := by
  intro is e
  rw [← e]
  clear e
  have key : ∀ (is : List Nat) (i : Nat) (s : Sl), (wipeD r is)[i]? = some s → s = .no ∨ (r[i]? = some s ∧ (L2.wipe σ' is)[i]? = σ'[i]?) := by
    intro is
    induction is with
    | nil => intro i s h; exact .inr ⟨h, rfl⟩
    | cons j is ih =>
      intro i s h
      unfold wipeD at h
      unfold L2.wipe
      by_cases hj : j = i
      · subst hj
        by_cases hl : j < (wipeD r is).length
        · rw [List.getElem?_set_self hl] at h; left; cases h; rfl
        · rw [List.getElem?_eq_none (by rw [List.length_set]; omega)] at h; cases h
      · rw [List.getElem?_set_ne hj] at h ⊢
        exact ih i s h
  refine ⟨S.bas, by rw [wipeD_len, wipe_length]; exact S.len, fun i s h => ?_, fun i j d e' hij hi hj => ?_⟩
  · rcases key is i s h with z | ⟨z1, z2⟩
    · subst z; trivial
    · rw [z2]; exact S.sl i s z1
  · rcases key is i _ hi with z | ⟨z1, z2⟩
    · cases z
    · rcases key is j _ hj with y | ⟨y1, y2⟩
      · cases y
      · rw [z2, y2]; exact S.ap i j d e' hij z1 y1
/-- what is done in a comprehension's turn, over data; B: the contexts in which elt is read -/
def LcTurnB (X : Cy) (scope : Scope) (B : Cy → Prop) (tg elt : Expr) (ifs : List Expr) (is : List Nat) (d : D) (acc : List D) (r : Env2) (G : GD) (Nx : List D → Env2 → GD → Prop) : Prop :=
  ∀ Y, BlkX X scope Y → WG Y tg d r G is fun r1 G1 => match ifs with
    | [] => ∀ Y, B Y → WE Y elt r1 G1 fun z r2 G2 => ∃ d' r3, fz r2 z = some (d', r3) ∧ acc.length < LIM ∧ Nx (acc ++ [d']) (wipeD r3 is) G2
    | [c] => ∀ Y, BlkX X scope Y → WT Y c r1 G1 fun b r2 G2 => (b = true → ∀ Y, B Y → WE Y elt r2 G2 fun z r3 G3 => ∃ d' r4, fz r3 z = some (d', r4) ∧ acc.length < LIM ∧ Nx (acc ++ [d']) (wipeD r4 is) G3) ∧ (b = false → Nx acc (wipeD r2 is) G2)
    | _ => False
def LcTurn (X : Cy) (scope : Scope) (tg elt : Expr) (ifs : List Expr) (is : List Nat) (d : D) (acc : List D) (r : Env2) (G : GD) (Nx : List D → Env2 → GD → Prop) : Prop :=
  ∀ Y, BlkX X scope Y → WG Y tg d r G is fun r1 G1 => match ifs with
    | [] => ∀ Y, BlkX X scope Y → WE Y elt r1 G1 fun z r2 G2 => ∃ d' r3, fz r2 z = some (d', r3) ∧ acc.length < LIM ∧ Nx (acc ++ [d']) (wipeD r3 is) G2
    | [c] => ∀ Y, BlkX X scope Y → WT Y c r1 G1 fun b r2 G2 => (b = true → ∀ Y, BlkX X scope Y → WE Y elt r2 G2 fun z r3 G3 => ∃ d' r4, fz r3 z = some (d', r4) ∧ acc.length < LIM ∧ Nx (acc ++ [d']) (wipeD r4 is) G3) ∧ (b = false → Nx acc (wipeD r2 is) G2)
    | _ => False
/-- the readings of a block, over all its contexts -/
def blkG (X : Cy) (scope : Scope) (tg : Expr) : TG := fun v σ H Q => ∀ Y, BlkX X scope Y → RunG Y tg v σ H Q
def blkE (X : Cy) (scope : Scope) (e : Expr) : TE := fun σ H Q => ∀ Y, BlkX X scope Y → Run Y e σ H Q
def blkT (X : Cy) (scope : Scope) (ifs : List Expr) : TT := fun σ H Q => match ifs with
  | [] => Q true H
  | [c] => ∀ Y, BlkX X scope Y → RunT Y c σ H Q
  | _ => False
theorem blkT_ok {scope : Scope} {ifs : List Expr} (s : Shared) (H : Hp) (C : Addr) (cl : List (Str × Addr)) (fp : List Addr) : PTs (X.toCx.blk s H scope (compEnvC scope cl C X.env) fp) ifs (blkT X scope ifs) := by
  refine ⟨fun pins s' σ H' Q I h => ?_⟩
  match ifs, h with
  | [], h => exact pts_nil.run pins s' σ H' Q I h
  | [c], h => exact (pts_one ptR).run pins s' σ H' Q I (h (X.blk s H scope (compEnvC scope cl C X.env) fp) ⟨s, H, C, cl, fp, rfl⟩)
  | _ :: _ :: _, h => exact h.elim
/-- one turn, over heaps -/
theorem lc_turnB {scope : Scope} {elt : Expr} {ifs : List Expr} {is : List Nat} {d : D} {acc : List D} {Nx : List D → Env2 → GD → Prop} {F0 T F H : Hp} {σ : L2.St} {v : V} {L : Addr} {us : List V}
    (lk : Lk X F0 T) (S : Sta X.K F0 (upd T L (.lst us)) F G H r (L2.wipe σ is)) (hT : T L = none) (h0 : F0 L = none) (ha : RepL X.K F0 acc us) (rp : Rep X.K F d v) {B : Cy → Prop} {te : TE} (hBk : ∀ Y, B Y → Y.K = X.K) (hBl : ∀ Y, B Y → ∀ T', Lk X F0 T' → Lk Y F0 T') (hte : ∀ σ H Q, (∀ Y, B Y → Run Y elt σ H Q) → te σ H Q) (h : LcTurnB X scope B tg elt ifs is d acc r G Nx) {Pn : Hp → Prop}
    (hN : ∀ acc' us' r' G' F' H', Nx acc' r' G' → RepL X.K F' acc' us' → Sta X.K F0 (upd T L (.lst us')) F' G' H' r' (L2.wipe σ is) → Pn H') :
    blkG X scope tg v (L2.wipe σ is) H fun σ2 H2 => L2.wipe σ2 is = L2.wipe σ is ∧ blkT X scope ifs σ2 H2 fun b H3 =>
      if b = true then te σ2 H3 fun y H4 => ∃ acc', H4 L = some (.lst acc') ∧ acc'.length < sizeLine ∧ Pn (upd H4 L (.lst (acc' ++ [y]))) else Pn H3 := by
  have wi : L2.wipe (L2.wipe σ is) is = L2.wipe σ is := by
    have aux : ∀ (js : List Nat) (τ : L2.St), (∀ j ∈ js, ∀ x, τ[j]? = some x → x = none) → L2.wipe τ js = τ := by
      intro js
      induction js with
      | nil => intro τ _; rfl
      | cons j js ih =>
        intro τ hτ
        unfold L2.wipe
        rw [ih τ fun k hk => hτ k (List.mem_cons_of_mem _ hk)]
        refine List.ext_getElem? fun k => ?_
        by_cases hjk : j = k
        · subst hjk
          by_cases hl : j < τ.length
          · rw [List.getElem?_set_self hl]
            cases e : τ[j]? with
            | none => rw [List.getElem?_eq_none_iff] at e; omega
            | some x => rw [hτ j List.mem_cons_self x e]
          · rw [List.getElem?_eq_none (by rw [List.length_set]; omega), List.getElem?_eq_none (by omega)]
        · rw [List.getElem?_set_ne hjk]
    refine aux is _ fun j hj x hx => ?_
    cases x with
    | none => rfl
    | some y => exact absurd hj (wipe_some hx).2
  have fin : ∀ (F2 : Hp) (G2 : GD) (H4 : Hp) (r2 r3 : Env2) (σ2 : L2.St) (z : Res) (y : V) (d' : D), L2.wipe σ2 is = L2.wipe σ is → Sta X.K F0 (upd T L (.lst us)) F2 G2 H4 r2 σ2 → ResOk X.K (upd T L (.lst us)) F2 G2 H4 r2 σ2 z y → fz r2 z = some (d', r3) → acc.length < LIM → Nx (acc ++ [d']) (wipeD r3 is) G2 →
      ∃ acc', H4 L = some (.lst acc') ∧ acc'.length < sizeLine ∧ Pn (upd H4 L (.lst (acc' ++ [y]))) := fun F2 G2 H4 r2 r3 σ2 z y d' hw S2 k2 q1 q2 q3 => by
    obtain ⟨F3, e3, S3, rp3⟩ := S2.fz k2 q1
    have hL : H4 L = some (.lst us) := S3.bas.tk L _ upd_same
    have ha3 : RepL X.K F3 acc us := RepL.mono S3.bas.ff _ _ ha
    have fL : F3 L = none := by
      cases e : F3 L with
      | none => rfl
      | some u =>
        rcases S3.bas.ft L u e with zz | zz
        · rw [h0] at zz; cases zz
        · rw [upd_same] at zz; cases zz
    have gL : G2 L = none := by
      cases e : G2 L with
      | none => rfl
      | some u => have zz := S3.bas.gt L u e; rw [upd_same] at zz; cases zz
    refine ⟨us, hL, by rw [ha3.length]; exact lim_lt q2, hN _ (us ++ [y]) _ G2 F3 _ q3 (ha3.append (.one rp3)) ?_⟩
    have Sw := S3.wipe is hw
    refine ⟨⟨Sw.bas.ff, fun q u hq => ?_, fun q u hq => ?_, fun q u hq => ?_, Sw.bas.fg, fun q u hq => ?_, fun q u hq => ?_⟩, Sw.len, fun i s hs => ?_, Sw.ap⟩
    · have hqL : q ≠ L := fun zz => by subst zz; rw [fL] at hq; cases hq
      have := Sw.bas.ft q u hq
      rw [upd_ne hqL] at this ⊢
      exact this
    · have hqL : q ≠ L := fun zz => by subst zz; rw [fL] at hq; cases hq
      rw [upd_ne hqL]; exact Sw.bas.fh q u hq
    · have hqL : q ≠ L := fun zz => by subst zz; rw [gL] at hq; cases hq
      exact (Sw.bas.gh q u hq).mono (Ex.refl _) fun o ho => by rw [upd_ne hqL]; exact ho
    · have hqL : q ≠ L := fun zz => by subst zz; rw [gL] at hq; cases hq
      have := Sw.bas.gt q u hq
      rw [upd_ne hqL] at this ⊢
      exact this
    · by_cases hqL : q = L
      · subst hqL; rw [upd_same] at hq ⊢; exact hq
      · rw [upd_ne hqL] at hq ⊢
        exact Sw.bas.tk q u (by rw [upd_ne hqL]; exact hq)
    · have hh := Sw.sl i s hs
      cases s with
      | no => trivial
      | sh d => exact hh
      | own d =>
        obtain ⟨p, k1, k3, k4, k5, k6⟩ := hh
        have hpL : p ≠ L := fun zz => by subst zz; rw [upd_same] at k6; cases k6
        rw [upd_ne hpL] at k6
        exact ⟨p, k1, k3.mono (Ex.refl _) (fun u hu => by rw [upd_ne hpL]; exact hu), k4, k5, by rw [upd_ne hpL]; exact k6⟩
  intro Y hY pins s u I rv
  have lk' : Lk X F0 (upd T L (.lst us)) := lk.ext (Ex.new hT)
  have hYK : Y.K = X.K := hY.k
  have h' := h Y hY
  unfold WG at h'
  rw [hYK] at h'
  refine wpAny_mono (h' F0 (upd T L (.lst us)) F H (L2.wipe σ is) v (hY.lk lk') S rp pins s u I rv) (fun _ s' ⟨σ', H', I', hw, r', G', F', e', S', q⟩ => ⟨σ', H', I', hw.trans wi, ?_⟩) fun _ _ x => x
  have hw' := hw.trans wi
  match ifs, q with
  | [], q =>
    unfold blkT
    dsimp only
    rw [if_pos rfl]
    refine hte _ _ _ fun Z hZ => ?_
    have q' := q Z hZ
    unfold WE at q'
    rw [hBk Z hZ] at q'
    exact (q' F0 _ F' H' σ' (hBl Z hZ _ lk') S').mono fun y H4 ⟨z, r2, G2, F2, e2, S2, k2, d', r3, m1, m2, m3⟩ => fin F2 G2 H4 r2 r3 σ' z y d' hw' S2 k2 m1 m2 m3
  | [c], q =>
    intro Z hZ
    have q' := q Z hZ
    unfold WT at q'
    rw [hZ.k] at q'
    refine (q' F0 _ F' H' σ' (hZ.lk lk') S').mono fun b H3 ⟨r2, G2, F2, e2, S2, m1, m2⟩ => ?_
    cases b with
    | true =>
      rw [if_pos rfl]
      refine hte _ _ _ fun W hW => ?_
      have q2 := m1 rfl W hW
      unfold WE at q2
      rw [hBk W hW] at q2
      exact (q2 F0 _ F2 H3 σ' (hBl W hW _ lk') S2).mono fun y H4 ⟨z, r3, G3, F3, e3, S3, k3, d', r4, n1, n2, n3⟩ => fin F3 G3 H4 r3 r4 σ' z y d' hw' S3 k3 n1 n2 n3
    | false =>
      rw [if_neg Bool.false_ne_true]
      exact hN acc us _ G2 F2 H3 (m2 rfl) (RepL.mono S2.bas.ff _ _ ha) (S2.wipe is hw')
  | _ :: _ :: _, q => exact q.elim
/-- what a comprehension's loop keeps -/
def LcInv (K : PySem.W.Frag) (T Fa : Hp) (τ : L2.St) (L : Addr) (I : List D → Env2 → GD → Prop) : Hp → Prop := fun H' =>
  ∃ acc us r' G' F', RepL K F' acc us ∧ Sta K Fa (upd T L (.lst us)) F' G' H' r' τ ∧ I acc r' G'
theorem lc_begin {K : PySem.W.Frag} {F0 T F H : Hp} {σ : L2.St} {is : List Nat} {L : Addr} {I : List D → Env2 → GD → Prop} (S : Sta K F0 T F G H r σ) (hL : H L = none) (h0 : I [] (wipeD r is) G) : LcInv K T F (L2.wipe σ is) L I (upd H L (.lst [])) := by
  obtain ⟨f1, f2, f3⟩ := S.bas.freshF hL
  have Sb := (S.newH (o := .lst []) hL).base.wipe (σ := σ) is rfl
  refine ⟨[], [], _, G, F, rfl, ⟨⟨Sb.bas.ff, fun q u hq => .inl hq, Sb.bas.fh, Sb.bas.gh, Sb.bas.fg, fun q u hq => ?_, fun q u hq => ?_⟩, Sb.len, fun i s hs => ?_, Sb.ap⟩, h0⟩
  · have hq' : q ≠ L := fun z => by subst z; rw [f2] at hq; cases hq
    rw [upd_ne hq']; exact Sb.bas.gt q u hq
  · by_cases hq' : q = L
    · subst hq'; rw [upd_same] at hq ⊢; exact hq
    · rw [upd_ne hq'] at hq; exact Sb.bas.tk q u hq
  · have hh := Sb.sl i s hs
    cases s with
    | no => trivial
    | sh d => exact hh
    | own d =>
      obtain ⟨p, k1, k2, k3, k4, k5⟩ := hh
      have hp : p ≠ L := fun z => by
        subst z
        by_cases hi : i ∈ is
        · have : (L2.wipe σ is)[i]? ≠ some (some (V.ref p)) := fun z => (wipe_some z).2 hi
          exact this k1
        · have e := (wipe_some k1).1
          have hr : r[i]? = some (.own d) := by
            have aux : ∀ (js : List Nat), i ∉ js → (wipeD r js)[i]? = r[i]? := by
              intro js
              induction js with
              | nil => intro _; rfl
              | cons j js ih =>
                intro hj
                unfold wipeD
                rw [List.getElem?_set_ne (fun z => hj (by rw [z]; exact List.mem_cons_self)), ih (fun z => hj (List.mem_cons_of_mem _ z))]
            rw [aux is hi] at hs
            exact hs
          exact S.freshR hL i d hr e
      exact ⟨p, k1, k2, k3, k4, by rw [upd_ne hp]; exact k5⟩
theorem lc_end {K : PySem.W.Frag} {F0 T Fa : Hp} {Ga : GD} {Ha H' : Hp} {σ : L2.St} {is : List Nat} {L : Addr} {I : List D → Env2 → GD → Prop} {Q : Res → Env2 → GD → Prop} (B : Bas K F0 T Fa Ga Ha) (hL : Ha L = none) (hσ : Wk r (wipeD r is)) (S0 : Sta K F0 T Fa Ga Ha r σ) (h : LcInv K T Fa (L2.wipe σ is) L I H') (he : ∀ acc r' G', I acc r' G' → Q (.fr (.lst acc)) r' G') :
    PostE K F0 T Fa σ Q (.ref L) H' := by
  obtain ⟨acc, us, r', G', F', ha, S, q⟩ := h
  obtain ⟨f1, f2, f3⟩ := B.freshF hL
  have fL : F' L = none := by
    cases e : F' L with
    | none => rfl
    | some u =>
      rcases S.bas.ft L u e with zz | zz
      · rw [f1] at zz; cases zz
      · rw [upd_same] at zz; cases zz
  have gL : G' L = none := by
    cases e : G' L with
    | none => rfl
    | some u => have zz := S.bas.gt L u e; rw [upd_same] at zz; cases zz
  have tsub : ∀ q u, T q = some u → upd T L (.lst us) q = some u := fun q u hq => by
    have hqL : q ≠ L := fun zz => by subst zz; rw [f3] at hq; cases hq
    rw [upd_ne hqL]; exact hq
  have tdown : ∀ q, upd T L (.lst us) q = none → T q = none := fun q hq => by
    cases hf : T q with
    | none => rfl
    | some u => rw [tsub q u hf] at hq; cases hq
  have slots : ∀ (i : Nat) (s : Sl), r'[i]? = some s → SlotOk K T F' G' H' s σ[i]? := fun i s hs => by
    have hh := S.sl i s hs
    cases s with
    | no => trivial
    | sh d => obtain ⟨v, k1, k2⟩ := hh; exact ⟨v, (wipe_some k1).1, k2⟩
    | own d => obtain ⟨p, k1, k2, k3, k4, k5⟩ := hh; exact ⟨p, (wipe_some k1).1, k2, k3, k4, tdown p k5⟩
  have St : Sta K F0 T F' G' H' r' σ := by
    refine ⟨⟨B.ff.trans S.bas.ff, fun q u hq => ?_, S.bas.fh, S.bas.gh, S.bas.fg, fun q u hq => tdown q (S.bas.gt q u hq), fun q u hq => S.bas.tk q u (tsub q u hq)⟩, by rw [S.len, wipe_length], slots, fun i j d e hij hi hj z => ?_⟩
    · rcases S.bas.ft q u hq with zz | zz
      · exact B.ft q u zz
      · exact .inr (tdown q zz)
    · obtain ⟨p, k1, _⟩ := S.ownS hi
      obtain ⟨p2, m1, _⟩ := S.ownS hj
      refine S.ap i j d e hij hi hj ?_
      rw [(wipe_some k1).1, (wipe_some m1).1] at z
      rw [k1, m1, z]
  refine ⟨.fr (.lst acc), r', G', F', S.bas.ff, St, ⟨L, rfl, ⟨us, S.bas.tk L _ upd_same, ha⟩, fL, gL, f3, fun i d hi z => ?_⟩, he acc r' G' q⟩
  obtain ⟨p, k1, _, _, _, k5⟩ := S.ownS hi
  have e1 := (wipe_some k1).1
  rw [e1] at z; cases z
  rw [upd_same] at k5; cases k5
theorem wk_wipe (r : Env2) : ∀ is, Wk r (wipeD r is)
  | [] => Wk.refl r
  | i :: is => by
    have ih := wk_wipe r is
    unfold wipeD
    have aux : ∀ {a b : Env2}, Wk a b → ∀ i, Wk a (b.set i .no) := by
      intro a b w
      induction w with
      | nil => intro i; exact .nil
      | no w ih =>
        intro i
        cases i with
        | zero => exact .no w
        | succ i => exact .no (ih i)
      | eq w ih =>
        intro i
        cases i with
        | zero => exact .no w
        | succ i => exact .eq (ih i)
    exact aux ih i
/-- one step of a comprehension over items -/
theorem lc_stepB {scope : Scope} {elt : Expr} {ifs : List Expr} {is : List Nat} {d : D} {J : It} {ds : List D} {i : Nat} {T Fa : Hp} {H H' : Hp} {σ : L2.St} {v : V} {L : Addr} {I I' : List D → Env2 → GD → Prop} (lk : Lk X Fa T) (hL : Fa L = none) (hT : T L = none) (hJ : ItD X.K J Fa ds) (hi : ds[i]? = some d) (h : LcInv X.K T Fa (L2.wipe σ is) L I H) (y : J.yld i H v H')
    {B : Cy → Prop} {te : TE} (hBk : ∀ Y, B Y → Y.K = X.K) (hBl : ∀ Y, B Y → ∀ F' T', Ex Fa F' → Lk X F' T' → Lk Y F' T') (hte : ∀ σ H Q, (∀ Y, B Y → Run Y elt σ H Q) → te σ H Q) (hs : ∀ acc r' G', I acc r' G' → LcTurnB X scope B tg elt ifs is d acc r' G' I') :
    blkG X scope tg v (L2.wipe σ is) H' fun σ2 H2 => L2.wipe σ2 is = L2.wipe σ is ∧ blkT X scope ifs σ2 H2 fun b H3 =>
      if b = true then te σ2 H3 fun y H4 => ∃ acc', H4 L = some (.lst acc') ∧ acc'.length < sizeLine ∧ LcInv X.K T Fa (L2.wipe σ is) L I' (upd H4 L (.lst (acc' ++ [y]))) else LcInv X.K T Fa (L2.wipe σ is) L I' H3 := by
  obtain ⟨acc, us, r', G', F1, ha1, S1, q⟩ := h
  obtain ⟨F', ef, S, rp⟩ := hJ.item S1.bas.ff S1 hi y
  have ha := RepL.mono ef _ _ ha1
  have fL : F' L = none := by
    cases e : F' L with
    | none => rfl
    | some u =>
      rcases S.bas.ft L u e with zz | zz
      · rw [hL] at zz; cases zz
      · rw [upd_same] at zz; cases zz
  have lk' : Lk X F' T := ⟨lk.t, lk.f.trans S.bas.ff, fun a o ho => (S.bas.ft a o ho).elim (fun z => lk.ft a o z) fun z => .inr (none_of lk.t (none_of (Ex.new hT) z))⟩
  refine lc_turnB lk' S.base hT fL ha rp hBk (fun Y hY T' l2 => hBl Y hY F' T' S.bas.ff l2) hte (hs acc r' G' q) fun acc' us' r2 G2 F2 H2 q2 ha2 S2 => ?_
  refine ⟨acc', us', r2, G2, F2, ha2, ⟨⟨S.bas.ff.trans S2.bas.ff, fun q u hq => ?_, S2.bas.fh, S2.bas.gh, S2.bas.fg, S2.bas.gt, S2.bas.tk⟩, S2.len, S2.sl, S2.ap⟩, q2⟩
  rcases S2.bas.ft q u hq with zz | zz
  · rcases S.bas.ft q u zz with yy | yy
    · exact .inl yy
    · by_cases hqL : q = L
      · subst hqL; rw [fL] at zz; cases zz
      · rw [upd_ne hqL] at yy ⊢; exact .inr yy
  · exact .inr zz
theorem lc_step {scope : Scope} {elt : Expr} {ifs : List Expr} {is : List Nat} {d : D} {J : It} {ds : List D} {i : Nat} {T Fa : Hp} {H H' : Hp} {σ : L2.St} {v : V} {L : Addr} {I I' : List D → Env2 → GD → Prop} (lk : Lk X Fa T) (hL : Fa L = none) (hT : T L = none) (hJ : ItD X.K J Fa ds) (hi : ds[i]? = some d) (h : LcInv X.K T Fa (L2.wipe σ is) L I H) (y : J.yld i H v H')
    (hs : ∀ acc r' G', I acc r' G' → LcTurn X scope tg elt ifs is d acc r' G' I') :
    blkG X scope tg v (L2.wipe σ is) H' fun σ2 H2 => L2.wipe σ2 is = L2.wipe σ is ∧ blkT X scope ifs σ2 H2 fun b H3 =>
      if b = true then blkE X scope elt σ2 H3 fun y H4 => ∃ acc', H4 L = some (.lst acc') ∧ acc'.length < sizeLine ∧ LcInv X.K T Fa (L2.wipe σ is) L I' (upd H4 L (.lst (acc' ++ [y]))) else LcInv X.K T Fa (L2.wipe σ is) L I' H3 :=
  lc_stepB (B := BlkX X scope) lk hL hT hJ hi h y (fun _ h => h.k) (fun _ h _ _ _ lk => h.lk lk) (fun _ _ _ h => h) hs
/-- [elt for tg in e if ..] -/
theorem lcI {scope : Scope} {elt : Expr} {ifs : List Expr} {own : List (Str × Nat)} {Q : Res → Env2 → GD → Prop} {F0 T F H : Hp} {σ : L2.St} (lk : Lk X F0 T) (S : Sta X.K F0 T F G H r σ)
    (h : WI X tg e r G fun ds r2 G1 => ∃ I : Nat → List D → Env2 → GD → Prop, I 0 [] (wipeD r2 (own.map (·.2))) G1 ∧ (∀ (k : Nat) (d : D) (acc : List D) (r3 : Env2) (G3 : GD), ds[k]? = some d → I k acc r3 G3 → LcTurn X scope tg elt ifs (own.map (·.2)) d acc r3 G3 (I (k + 1))) ∧
      ∀ acc r3 G3, I ds.length acc r3 G3 → Q (.fr (.lst acc)) r3 G3) : tLc (RunI X tg e) (blkG X scope tg) (blkT X scope ifs) (blkE X scope elt) (own.map (·.2)) σ H (PostE X.K F0 T F σ Q) := by
  refine (h F0 T F H σ lk S).mono fun J H1 ⟨ds, r2, G1, Fa, e1, Sa, hJ, I, i0, it, ie⟩ L hL => ?_
  obtain ⟨f1, f2, f3⟩ := Sa.bas.freshF hL
  refine ⟨fun i m H' => m = ds.length - i ∧ i ≤ ds.length ∧ LcInv X.K T Fa (L2.wipe σ (own.map (·.2))) L (I i) H', ⟨ds.length, by simp, Nat.zero_le _, lc_begin Sa hL i0⟩, ?_⟩
  rintro i m H' ⟨rfl, hi, hI⟩
  obtain ⟨_, _, _, _, F', _, S', _⟩ := id hI
  obtain ⟨j1, j2⟩ := hJ F' H' S'.bas.ff S'.bas.fh
  by_cases hlt : i < ds.length
  · obtain ⟨j3, _⟩ := j2 i ds[i] (List.getElem?_eq_getElem hlt)
    refine .inr ⟨j3, fun H2 => LcInv X.K T Fa (L2.wipe σ (own.map (·.2))) L (I (i + 1)) H2, fun H2 p2 => ⟨ds.length - (i + 1), by omega, rfl, hlt, p2⟩, fun x H2 y => ?_⟩
    exact lc_step (lk.base Sa.bas) f1 f3 hJ (List.getElem?_eq_getElem hlt) hI y fun acc r' G' q => it i ds[i] acc r' G' (List.getElem?_eq_getElem hlt) q
  · have e : i = ds.length := by omega
    subst e
    exact .inl ⟨j1, (lc_end Sa.bas hL (wk_wipe _ _) Sa hI fun acc r' G' q => ie acc r' G' q).ext e1⟩
theorem blkG_ok {scope : Scope} (s : Shared) (H : Hp) (C : Addr) (cl : List (Str × Addr)) (fp : List Addr) : PG (X.toCx.blk s H scope (compEnvC scope cl C X.env) fp) tg (blkG X scope tg) :=
  ⟨fun pins s' σ H' v u Q I rv h => h (X.blk s H scope (compEnvC scope cl C X.env) fp) ⟨s, H, C, cl, fp, rfl⟩ pins s' u I rv⟩
theorem blkE_ok {scope : Scope} {elt : Expr} (s : Shared) (H : Hp) (C : Addr) (cl : List (Str × Addr)) (fp : List Addr) : PE (X.toCx.blk s H scope (compEnvC scope cl C X.env) fp) elt (blkE X scope elt) :=
  ⟨fun pins s' σ H' Q I h => h (X.blk s H scope (compEnvC scope cl C X.env) fp) ⟨s, H, C, cl, fp, rfl⟩ pins s' I⟩
theorem we_lc {scope : Scope} {elt : Expr} {ifs : List Expr} (own : List (Str × Nat)) {Q : Res → Env2 → GD → Prop} (hc : X.calm = true) (hN : X.N.Nodup) (ok : BlkOk X.N X.env.scope scope own)
    (h : WI X tg e r G fun ds r2 G1 => ∃ I : Nat → List D → Env2 → GD → Prop, I 0 [] (wipeD r2 (own.map (·.2))) G1 ∧ (∀ (k : Nat) (d : D) (acc : List D) (r3 : Env2) (G3 : GD), ds[k]? = some d → I k acc r3 G3 → LcTurn X scope tg elt ifs (own.map (·.2)) d acc r3 G3 (I (k + 1))) ∧
      ∀ acc r3 G3, I ds.length acc r3 G3 → Q (.fr (.lst acc)) r3 G3) (hs : ∀ x, foldedSetIterable e X.env x = pure x := by intro _; rfl) : WE X (.ListComp elt [⟨tg, e, ifs, 0⟩] scope pos) r G Q := fun F0 T F H σ lk S =>
  Run.of (pe_lc hc hN piR ok blkG_ok blkT_ok blkE_ok hs) (lcI lk S h)
end
theorem Sta.gput {K : PySem.W.Frag} {F0 T F : Hp} {G : GD} {H : Hp} {r : Env2} {σ : L2.St} (S : Sta K F0 T F G H r σ) {b : Addr} {d0 d : D} (hG : G b = some d0) {o' : HO} (ho : Own K F (upd H b o') b d) : Sta K F0 T F (updG G b d) (upd H b o') r σ := by
  have f1 := S.bas.fg _ _ hG
  have f2 := S.bas.gt _ _ hG
  refine ⟨⟨S.bas.ff, S.bas.ft, fun a u e => ?_, fun a u e => ?_, fun a u e => ?_, fun a u e => ?_, fun a u e => ?_⟩, S.len, fun i s e => ?_, S.ap⟩
  · rw [upd_ne (ne_of_none e f1)]; exact S.bas.fh a u e
  · by_cases h : a = b
    · subst h; rw [updG_same] at e; cases e; exact ho
    · rw [updG_ne h] at e
      exact (S.bas.gh a u e).mono (Ex.refl _) fun o q => by rw [upd_ne h]; exact q
  · by_cases h : a = b
    · subst h; exact f1
    · rw [updG_ne h] at e; exact S.bas.fg a u e
  · by_cases h : a = b
    · subst h; exact f2
    · rw [updG_ne h] at e; exact S.bas.gt a u e
  · rw [upd_ne (ne_of_none e f2)]; exact S.bas.tk a u e
  · have q := S.sl i s e
    cases s with
    | no => trivial
    | sh d => exact q
    | own d =>
      obtain ⟨p, q1, q2, q3, q4, q5⟩ := q
      have hp : p ≠ b := fun z => by subst z; rw [q4] at hG; cases hG
      exact ⟨p, q1, q2.mono (Ex.refl _) (fun u hu => by rw [upd_ne hp]; exact hu), q3, by rw [updG_ne hp]; exact q4, q5⟩
/-- a new object of the open region -/
theorem Sta.gnew {K : PySem.W.Frag} {F0 T F : Hp} {G : GD} {H : Hp} {r : Env2} {σ : L2.St} (S : Sta K F0 T F G H r σ) {p : Addr} {d : D} (h : ResOk K T F G H r σ (.fr d) (.ref p)) : Sta K F0 T F (updG G p d) H r σ := by
  obtain ⟨p', e, h2, h3, h4, h5, h6⟩ := h
  cases e
  refine ⟨⟨S.bas.ff, S.bas.ft, S.bas.fh, fun a u e => ?_, fun a u e => ?_, fun a u e => ?_, S.bas.tk⟩, S.len, fun i s e => ?_, S.ap⟩
  · by_cases h : a = p
    · subst h; rw [updG_same] at e; cases e; exact h2
    · rw [updG_ne h] at e; exact S.bas.gh a u e
  · by_cases h : a = p
    · subst h; exact h3
    · rw [updG_ne h] at e; exact S.bas.fg a u e
  · by_cases h : a = p
    · subst h; exact h5
    · rw [updG_ne h] at e; exact S.bas.gt a u e
  · have q := S.sl i s e
    cases s with
    | no => trivial
    | sh d => exact q
    | own d =>
      obtain ⟨p', q1, q2, q3, q4, q5⟩ := q
      have hp : p' ≠ p := fun z => by subst z; exact h6 i d e q1
      exact ⟨p', q1, q2, q3, by rw [updG_ne hp]; exact q4, q5⟩
section
variable {X : Cy} {e e2 a b c o tg : Expr} {es : List Expr} {st : Stmt} {sts rest body orelse : List Stmt} {r : Env2} {G : GD} {pos tpos apos cpos p0 : Pos} {D0 : EndsD}
/-- a fresh result goes to the open region -/
theorem we_open {Q : Res → Env2 → GD → Prop} (h : WE X e r G fun x r1 G1 => ∃ d, x = .fr d ∧ ∀ p, G1 p = none → Q (.sh (.adr p)) r1 (updG G1 p d)) : WE X e r G Q := fun F0 T F H σ lk S =>
  (h F0 T F H σ lk S).mono fun v H1 ⟨x, r1, G1, F1, e1, S1, k1, d, hx, q⟩ => by
    subst hx
    obtain ⟨p, rfl, h2, h3, h4, h5, h6⟩ := id k1
    exact ⟨.sh (.adr p), r1, updG G1 p d, F1, e1, S1.gnew k1, rfl, q p h4⟩
/-- o[i] = e, o a list of the open region -/
theorem ws_setG (h : WE X e r G fun y r1 G1 => ∃ d r1', fz r1 y = some (d, r1') ∧ WE X o r1' G1 fun x r2 G2 => ∃ g, x = .sh (.adr g) ∧ WE X a r2 G2 fun z r3 G3 => ∃ k ds m, vw r3 z = some (.int k) ∧ G3 g = some (.lst ds) ∧ ixN ds.length k = some m ∧ D0.nx r3 (updG G3 g (.lst (ds.set m d))))
    (ha : ∀ v, assign (.Subscript o a tpos) X.env v = (do
      let ov ← holding [v] (eval o X.env)
      let iv ← holding [v, ov] (eval a X.env)
      standAt tpos
      holding [v, ov, iv] (setItem ov iv v)
      release [v, ov, iv] []) := by intro _; rfl)
    (hs : swapsWithSole [.Subscript o a tpos] e pos.line X.env = pure false := by rfl) (hw : swappedStores [.Subscript o a tpos] e X.env = pure none := by rfl)
    (h1 : (assignEach [.Subscript o a tpos] X.env).map (·.2) = [assign (.Subscript o a tpos) X.env] := by rfl) : WS X (.Assign [.Subscript o a tpos] e pos) r G D0 := fun F0 T F H σ lk S =>
  RunS.of (ps_asg peR (pg_sub peR peR set_list ha) hs hw h1) ((h F0 T F H σ lk S).mono fun v H1 ⟨y, r1, G1, F1, e1, S1, k1, d, r1', q1, q2⟩ => by
    obtain ⟨F1', e1', S1', rp⟩ := S1.fz k1 q1
    refine (q2 F0 T F1' H1 σ lk S1').mono fun vo H2 ⟨x, r2, G2, F2, e2, S2, k2, g, hx, q3⟩ => ?_
    subst hx
    cases (show vo = .ref g from k2)
    refine (q3 F0 T F2 H2 σ lk S2).mono fun vi H3 ⟨z, r3, G3, F3, e3, S3, k3, k, ds, m, q4, q5, q6, q7⟩ => ?_
    cases (S3.view k3 q4).int
    obtain ⟨vs, z1, z2⟩ := S3.bas.gh _ _ q5
    exact ⟨g, vs, k, m, rfl, rfl, z1, by rw [z2.length]; exact q6, r3, _, F3, S3.gput (d := .lst (ds.set m d)) q5 ⟨_, upd_same, z2.set m (Rep.mono (e2.trans e3) _ _ rp)⟩, q7⟩)
theorem Sta.lock {K : PySem.W.Frag} {F0 T F : Hp} {G : GD} {H : Hp} {r : Env2} {σ : L2.St} (S : Sta K F0 T F G H r σ) {p : Addr} {ks : List Key} {ds : List D} {vs : List V} {o : Obj} (hp : H p = some (.dK (ks.zip vs))) (hl : ks.length = ds.length) (hv : RepL K F ds vs) (h1 : F p = none) (h2 : G p = none) (h3 : T p = none)
    (h4 : ∀ (i : Nat) (e : D), r[i]? = some (.own e) → σ[i]? ≠ some (some (.ref p))) :
    Ex F (upd F p (.frz o (.dK (ks.zip vs)))) ∧ Sta K F0 T (upd F p (.frz o (.dK (ks.zip vs)))) G (upd H p (.frz o (.dK (ks.zip vs)))) r σ ∧ Rep K (upd F p (.frz o (.dK (ks.zip vs)))) (.dic ks ds) (.ref p) := by
  have ef : Ex F (upd F p (.frz o (.dK (ks.zip vs)))) := Ex.new h1
  refine ⟨ef, ⟨(S.bas.put h1 h2 h3).frz upd_same h1 h2 h3, S.len, fun i s e => ?_, S.ap⟩, p, o, vs, rfl, upd_same, hl, RepL.mono ef _ _ hv⟩
  have q := S.sl i s e
  cases s with
  | no => trivial
  | sh d => obtain ⟨v, q1, q2⟩ := q; exact ⟨v, q1, Rep.mono ef _ _ q2⟩
  | own d =>
    obtain ⟨p', q1, q2, q3, q4, q5⟩ := q
    have hne : p' ≠ p := fun z => by subst z; exact h4 i d e q1
    exact ⟨p', q1, q2.mono ef fun u hu => by rw [upd_ne hne]; exact hu, by rw [upd_ne hne]; exact q3, q4, q5⟩
/-- a dict that was just made -/
theorem we_lock {Q : Res → Env2 → GD → Prop} (h : WE X e r G fun x r1 G1 => ∃ ks ds, x = .fr (.dic ks ds) ∧ Q (.sh (.dic ks ds)) r1 G1) : WE X e r G Q := fun F0 T F H σ lk S pins s I =>
  wpAny_mono (h F0 T F H σ lk S pins s I) (fun u s' ⟨v, H', I', rv, x, r1, G1, F1, e1, S1, k1, ks, ds, hx, q⟩ => by
    subst hx
    obtain ⟨p, rfl, ⟨vs, z1, z2, z3⟩, h3, h4, h5, h6⟩ := k1
    obtain ⟨o, I2⟩ := I'.lock z1 (by first | trivial | exact .inl rfl | decide)
    obtain ⟨ef, S2, rp⟩ := S1.lock (o := o) z1 z2 z3 h3 h4 h5 h6
    exact ⟨.ref p, _, I2, rv, .sh (.dic ks ds), r1, G1, _, e1.trans ef, S2, rp, q⟩) fun _ _ x => x
theorem Sta.lockSlot {K : PySem.W.Frag} {F0 T F : Hp} {G : GD} {H : Hp} {r : Env2} {σ : L2.St} (S : Sta K F0 T F G H r σ) {i : Nat} {ks : List Key} {ds : List D} (h : r[i]? = some (.own (.dic ks ds))) : ∃ p vs, H p = some (.dK (ks.zip vs)) ∧ σ[i]? = some (some (.ref p)) ∧ ∀ o,
    ∃ F', Ex F F' ∧ Sta K F0 T F' G (upd H p (.frz o (.dK (ks.zip vs)))) (r.set i (.sh (.dic ks ds))) σ ∧ Rep K F' (.dic ks ds) (.ref p) := by
  obtain ⟨p, h1, ⟨vs, z1, z2, z3⟩, h3, h4, h5⟩ := S.ownS h
  have hi : i < r.length := (List.getElem?_eq_some_iff.mp h).1
  refine ⟨p, vs, z1, h1, fun o => ?_⟩
  have S0 : Sta K F0 T F G H (r.set i .no) σ := by
    refine ⟨S.bas, by rw [List.length_set]; exact S.len, fun j s e => ?_, fun j k d e hjk ej ek => ?_⟩
    · by_cases hj : i = j
      · subst hj; rw [List.getElem?_set_self hi] at e; cases e; trivial
      · rw [List.getElem?_set_ne hj] at e; exact S.sl j s e
    · by_cases hj : i = j
      · subst hj; rw [List.getElem?_set_self hi] at ej; cases ej
      · by_cases hk : i = k
        · subst hk; rw [List.getElem?_set_self hi] at ek; cases ek
        · rw [List.getElem?_set_ne hj] at ej
          rw [List.getElem?_set_ne hk] at ek
          exact S.ap j k d e hjk ej ek
  obtain ⟨ef, S2, rp⟩ := S0.lock (o := o) z1 z2 z3 h3 h4 h5 fun j e hj zz => by
    by_cases hij : i = j
    · subst hij; rw [List.getElem?_set_self hi] at hj; cases hj
    · rw [List.getElem?_set_ne hij] at hj
      exact S.ap i j _ e hij h hj (h1.trans zz.symm)
  refine ⟨_, ef, ?_, rp⟩
  have := S2.set (i := i) (s := .sh (.dic ks ds)) (v := .ref p) (by rw [List.length_set]; exact hi) ⟨_, rfl, rp⟩ fun d z => nomatch z
  rw [List.set_set] at this
  have hσ : σ.set i (some (.ref p)) = σ := by
    refine List.ext_getElem? fun j => ?_
    by_cases hj : i = j
    · subst hj
      have hl : i < σ.length := by rw [← S.len]; exact hi
      rw [List.getElem?_set_self hl, h1]
    · rw [List.getElem?_set_ne hj]
  rw [hσ] at this
  exact this
/-- a dict of an own slot, ahead of a block -/
theorem wb_lock (i : Nat) {ks : List Key} {ds : List D} (hi : r[i]? = some (.own (.dic ks ds))) (h : WB X sts (r.set i (.sh (.dic ks ds))) G D0) : WB X sts r G D0 := fun F0 T F H σ lk S pins s I => by
  obtain ⟨p, vs, z1, z2, hz⟩ := S.lockSlot hi
  obtain ⟨o, I2⟩ := I.lock z1 (by first | trivial | exact .inl rfl | decide)
  obtain ⟨F', ef, S2, rp⟩ := hz o
  exact h F0 T F' _ σ lk S2 pins s I2
end
section
variable {X : Cy} {e a b c o tg : Expr} {es : List Expr} {st : Stmt} {sts rest body orelse : List Stmt} {r : Env2} {G : GD} {pos tpos apos cpos p0 : Pos} {D0 : EndsD}
theorem chain {op op' : CmpOp} {Q : Res → Env2 → GD → Prop} {F0 T F H : Hp} {σ : L2.St} (lk : Lk X F0 T) (S : Sta X.K F0 T F G H r σ)
    (h : WE X a r G fun x r1 G1 => WE X b r1 G1 fun y r2 G2 => ∃ da db, VwR r2 G2 x da ∧ VwR r2 G2 y db ∧ OpW X (compareOp op) da db fun z => ∃ k, z = .sh (.bl k) ∧ (k = true → WE X c r2 G2 fun w r3 G3 => ∃ db' dc, VwR r3 G3 y db' ∧ VwR r3 G3 w dc ∧ OpW X (compareOp op') db' dc fun u => Q u r3 G3) ∧ (k = false → Q (.sh (.bl false)) r2 G2)) :
    tChain (opU X (compareOp op)) (opU X (compareOp op')) (Run X a) (Run X b) (Run X c) σ H (PostE X.K F0 T F σ Q) := by
  refine (h F0 T F H σ lk S).mono fun va H1 ⟨x, r1, G1, F1, e1, S1, k1, h1⟩ => ?_
  obtain ⟨F1', e1', S1', hv⟩ := hold S1 k1
  refine (h1 F0 T F1' H1 σ lk S1').mono fun vb H2 ⟨y, r2, G2, F2, e2, S2, k2, da, db, q1, q2, q3⟩ => ?_
  obtain ⟨F2', e2', S2', hw⟩ := hold S2 k2
  obtain ⟨rr, h3, h4⟩ := q3 F0 T F2' G2 H2 r2 σ va vb S2' (hv F2' G2 H2 r2 da (e2.trans e2') S2' q1) (hw F2' G2 H2 r2 db (Ex.refl _) S2' q2)
  refine ⟨_, (show OpR X (compareOp op) (fun u w H Q' => rr u w H _ ∧ ∀ v H', _ → Q' v H') from fun pins s σ H x y v u Q' I rx ry ⟨q, m⟩ => wpAny_mono (h3 pins s σ H x y v u _ I rx ry q) (fun _ _ ⟨v, H', I', rl, q⟩ => ⟨v, H', I', rl, m v H' q⟩) fun _ _ x => x), h4, fun v H3 ⟨z, F3, e3, S3, k3, k, hz, m1, m2⟩ => ?_⟩
  subst hz
  refine ⟨k, k3, ?_⟩
  cases k with
  | false =>
    rw [if_neg Bool.false_ne_true]
    exact ⟨.sh (.bl false), r2, G2, F3, (((e1.trans e1').trans e2).trans e2').trans e3, S3, rfl, m2 rfl⟩
  | true =>
    rw [if_pos rfl]
    refine (m1 rfl F0 T F3 H3 σ lk S3).mono fun vc H4 ⟨w, r3, G3, F4, e4, S4, k4, db', dc, n1, n2, n3⟩ => ?_
    obtain ⟨rr2, h5, h6⟩ := n3 F0 T F4 G3 H4 r3 σ vb vc S4 (hw F4 G3 H4 r3 db' (e3.trans e4) S4 n1) (S4.viewR k4 n2)
    exact ⟨_, (show OpR X (compareOp op') (fun u w H Q' => rr2 u w H _ ∧ ∀ v H', _ → Q' v H') from fun pins s σ H x y v u Q' I rx ry ⟨q, m⟩ => wpAny_mono (h5 pins s σ H x y v u _ I rx ry q) (fun _ _ ⟨v, H', I', rl, q⟩ => ⟨v, H', I', rl, m v H' q⟩) fun _ _ x => x), h6, fun v H' ⟨z, F', l1, l2, l3, l4⟩ => ⟨z, r3, G3, F', (((((e1.trans e1').trans e2).trans e2').trans e3).trans e4).trans l1, l2, l3, l4⟩⟩
theorem we_chain {op op' : CmpOp} {Q : Res → Env2 → GD → Prop}
    (h : WE X a r G fun x r1 G1 => WE X b r1 G1 fun y r2 G2 => ∃ da db, VwR r2 G2 x da ∧ VwR r2 G2 y db ∧ OpW X (compareOp op) da db fun z => ∃ k, z = .sh (.bl k) ∧ (k = true → WE X c r2 G2 fun w r3 G3 => ∃ db' dc, VwR r3 G3 y db' ∧ VwR r3 G3 w dc ∧ OpW X (compareOp op') db' dc fun u => Q u r3 G3) ∧ (k = false → Q (.sh (.bl false)) r2 G2))
    (hm : lastMarks [op, op'] [b, c] = false := by with_unfolding_all rfl) : WE X (.Compare a [op, op'] [b, c] pos) r G Q := fun F0 T F H σ lk S => Run.of (pe_chain (opU_ok _) (opU_ok _) peR peR peR hm) (chain lk S h)
/-- lo <= x <= hi on ints -/
theorem we_chainI {op op' : CmpOp} {p q : Int → Int → Bool} {Q : Res → Env2 → GD → Prop} (ho : ∀ (i j : Int) (R : Res → Prop), R (.sh (.bl (p i j))) → OpW X (compareOp op) (.int i) (.int j) R) (ho' : ∀ (i j : Int) (R : Res → Prop), R (.sh (.bl (q i j))) → OpW X (compareOp op') (.int i) (.int j) R)
    (h : WE X a r G fun x r1 G1 => WE X b r1 G1 fun y r2 G2 => ∃ i j k, vw r2 x = some (.int i) ∧ vw r2 y = some (.int j) ∧ (p i j = true → WE X c r2 G2 fun w r3 G3 => r3 = r2 ∧ G3 = G2 ∧ vw r3 w = some (.int k)) ∧ Q (.sh (.bl (p i j && q j k))) r2 G2)
    (hm : lastMarks [op, op'] [b, c] = false := by with_unfolding_all rfl) : WE X (.Compare a [op, op'] [b, c] pos) r G Q :=
  we_chain (h.mono fun x r1 G1 h1 => h1.mono fun y r2 G2 ⟨i, j, k, q1, q2, q3, q4⟩ => ⟨_, _, .inl q1, .inl q2, ho i j _ ⟨p i j, rfl, fun hp => (q3 hp).mono fun w r3 G3 ⟨m1, m2, m3⟩ => ⟨_, _, .inl (by rw [m1]; exact q2), .inl m3, ho' j k _ (by subst m1 m2; rw [hp, Bool.true_and] at q4; exact q4)⟩, fun hp => by rw [hp, Bool.false_and] at q4; exact q4⟩⟩) hm
theorem wt_chainI {op op' : CmpOp} {p q : Int → Int → Bool} {Q : Bool → Env2 → GD → Prop} (ho : ∀ (i j : Int) (R : Res → Prop), R (.sh (.bl (p i j))) → OpW X (compareOp op) (.int i) (.int j) R) (ho' : ∀ (i j : Int) (R : Res → Prop), R (.sh (.bl (q i j))) → OpW X (compareOp op') (.int i) (.int j) R)
    (h : WE X a r G fun x r1 G1 => WE X b r1 G1 fun y r2 G2 => ∃ i j k, vw r2 x = some (.int i) ∧ vw r2 y = some (.int j) ∧ (p i j = true → WE X c r2 G2 fun w r3 G3 => r3 = r2 ∧ G3 = G2 ∧ vw r3 w = some (.int k)) ∧ Q (p i j && q j k) r2 G2)
    (hm : lastMarks [op, op'] [b, c] = false := by with_unfolding_all rfl) : WT X (.Compare a [op, op'] [b, c] pos) r G Q := fun F0 T F H σ lk S =>
  RunT.of (pt_chain (opU_ok _) (opU_ok _) peR peR peR hm) (by
    have base := we_chainI (pos := pos) (Q := isB Q) ho ho' (h.mono fun x r1 G1 h1 => h1.mono fun y r2 G2 ⟨i, j, k, q1, q2, q3, q4⟩ => ⟨i, j, k, q1, q2, q3, ⟨_, rfl, q4⟩⟩) hm
    have z := chain (Q := isB Q) lk S (h.mono fun x r1 G1 h1 => h1.mono fun y r2 G2 ⟨i, j, k, q1, q2, q3, q4⟩ => ⟨_, _, .inl q1, .inl q2, ho i j _ ⟨p i j, rfl, fun hp => (q3 hp).mono fun w r3 G3 ⟨m1, m2, m3⟩ => ⟨_, _, .inl (by rw [m1]; exact q2), .inl m3, ho' j k _ (by subst m1 m2; rw [hp, Bool.true_and] at q4; exact ⟨_, rfl, q4⟩)⟩, fun hp => by rw [hp, Bool.false_and] at q4; exact ⟨_, rfl, q4⟩⟩⟩)
    refine Run.mono z fun va H1 z1 => Run.mono z1 fun vb H2 ⟨rr, h3, h4⟩ => ⟨_, (show OpR X (compareOp op) (fun u w H Q' => rr u w H _ ∧ ∀ v H', _ → Q' v H') from fun pins s σ H x y v u Q' I rx ry ⟨q, m⟩ => wpAny_mono (h3 pins s σ H x y v u _ I rx ry q) (fun _ _ ⟨v, H', I', rl, q⟩ => ⟨v, H', I', rl, m v H' q⟩) fun _ _ x => x), h4, fun v H3 ⟨k, hk, hz⟩ => ⟨k, hk, ?_⟩⟩
    cases k with
    | false => rw [if_neg Bool.false_ne_true] at hz ⊢; exact postB hz
    | true =>
      rw [if_pos rfl] at hz ⊢
      refine Run.mono hz fun vc H4 ⟨rr2, h5, h6⟩ => ⟨_, (show OpR X (compareOp op') (fun u w H Q' => rr2 u w H _ ∧ ∀ v H', _ → Q' v H') from fun pins s σ H x y v u Q' I rx ry ⟨q, m⟩ => wpAny_mono (h5 pins s σ H x y v u _ I rx ry q) (fun _ _ ⟨v, H', I', rl, q⟩ => ⟨v, H', I', rl, m v H' q⟩) fun _ _ x => x), h6, fun v H' z' => postB z'⟩)
theorem ww_andB {Q : Bool → Env2 → GD → Prop} (h : WT X a r G fun c1 r1 G1 => ∃ c2, (c1 = true → WW X (.BoolOp .And (b :: es) pos) r1 G1 fun d r2 G2 => d = c2 ∧ r2 = r1 ∧ G2 = G1) ∧ Q (c1 && c2) r1 G1) : WW X (.BoolOp .And (a :: b :: es) pos) r G Q :=
  ww_and (h.mono fun c1 r1 G1 ⟨c2, h1, h2⟩ => ⟨fun hc => fun F0 T F H σ lk S w pins s I => wpAny_mono (h1 hc F0 T F H σ lk S w pins s I) (fun _ _ ⟨H', I', r', G', F', k1, k2, k3, k4, k5⟩ => ⟨H', I', r', G', F', k1, k2, by subst k3 k4 k5; rw [hc, Bool.true_and] at h2; exact h2⟩) fun _ _ x => x, fun hc => by rw [hc, Bool.false_and] at h2; exact h2⟩)
theorem ww_orB {Q : Bool → Env2 → GD → Prop} (h : WT X a r G fun c1 r1 G1 => ∃ c2, (c1 = false → WW X (.BoolOp .Or (b :: es) pos) r1 G1 fun d r2 G2 => d = c2 ∧ r2 = r1 ∧ G2 = G1) ∧ Q (c1 || c2) r1 G1) : WW X (.BoolOp .Or (a :: b :: es) pos) r G Q :=
  ww_or (h.mono fun c1 r1 G1 ⟨c2, h1, h2⟩ => ⟨fun hc => fun F0 T F H σ lk S w pins s I => wpAny_mono (h1 hc F0 T F H σ lk S w pins s I) (fun _ _ ⟨H', I', r', G', F', k1, k2, k3, k4, k5⟩ => ⟨H', I', r', G', F', k1, k2, by subst k3 k4 k5; rw [hc, Bool.false_or] at h2; exact h2⟩) fun _ _ x => x, fun hc => by rw [hc, Bool.true_or] at h2; exact h2⟩)
structure Cal (P : Program) (w : World) (K : PySem.W.Frag) (mg : Str → Option Value) (base : Heap) (x : Str) (k : Nat) (ps : List Str) (sp : FSp) : Prop where
  ex : ∃ (f : Addr) (fd : FuncData), FnOk P w K mg base (CX P w) k f fd ps (spD K sp) ∧ mg x = some (.ref f) ∧ PySem.W.keepIn K (.ref f) = true ∧ Binds K fd ps []
theorem we_cal {x : Str} {k j : Nat} {ps : List Str} {sp : FSp} {Q : Res → Env2 → GD → Prop} (tk : X.Tk) (C : Cal X.prog X.w X.K X.mg X.base x k ps sp) (hr : Room j X.A) (hg : Gl X x) (h : WA X (e :: es) r G fun ds r1 G1 => sp ds G1 (fun z G2 => Q z r1 G2) (fun x G2 => X.QX x r1 G2)) (hj : k ≤ j := by omega)
    (hdb : (x == ("__debug__" : Str)) = false := by decide) (he : starEach (e :: es) X.env = (false, eval e X.env) :: starEach es X.env := by rfl) (hpl : (backTo pos (starEach es X.env)).any (·.1) = false := by rfl) : WE X (.Call (.Name x p0) (e :: es) [] pos) r G Q := by
  obtain ⟨f, fd, h1, h2, h3, h4⟩ := C.ex
  exact we_call tk h1 (hr.mono hj) hg h2 h3 h4 h hdb he hpl
structure PropD (P : Program) (w : World) (K : PySem.W.Frag) (mg : Str → Option Value) (base : Heap) (C : Addr) (f : Str) (k : Nat) (sp : FSp) : Prop where
  ex : ∃ (p g : Addr) (fd : FuncData), PySem.W.findIn K (.ref C) f = some (some (.ref p)) ∧ PySem.W.specialIn K (.ref p) "__get__" = some (some (.builtin "property.__get__")) ∧ PySem.W.takesIn K (.ref p) = some true ∧ (∃ rest, PySem.W.recIn K p "property" = some (.ref g :: rest)) ∧
    FnOk P w K mg base (CX P w) k g fd ["self"] (spD K sp) ∧ Binds K fd ["self"] []
theorem fnr {P : Program} {w : World} {K : PySem.W.Frag} {mg : Str → Option Value} {base : Heap} {CX : CXT} {k : Nat} {f : Addr} {fd : FuncData} {ps : List Str} {sp : Sp} (F : FnOk P w K mg base CX k f fd ps sp) (hb : Binds K fd ps []) : FnR P w K mg base CX k f sp :=
  (F.raw hb .nil).imp fun vs H Q E h => by rw [List.append_nil]; exact h
/-- a promise met from a state, no exception leaves -/
theorem spD_of0 {F0 T F F1 H : Hp} {σ : L2.St} {sp : FSp} {ds : List D} {vs : List V} {Q : Res → Env2 → GD → Prop} (S : Sta X.K F0 T F1 G H r σ) (e1 : Ex F F1) (ha : RepL X.K F1 ds vs) (h : sp ds G (fun z G2 => Q z r G2) (fun _ _ => False)) : spD X.K sp vs H (PostE X.K F0 T F σ Q) (fun _ _ _ => False) :=
  ⟨F1, G, ds, _, _, S.bas.fh, S.bas.gh, S.bas.fg, ha, h, fun x G' v H' F' hp B rt => ⟨x, r, G', F', e1.trans B.ff, S.after B, ResOk.after S B rt, hp⟩, fun x cls d G' H' F' hp B ex => hp⟩
theorem we_prop {f : Str} {C : Addr} {k j : Nat} {sp : FSp} {Q : Res → Env2 → GD → Prop} (c : SlX.SCls X.K C) (p : PropD X.prog X.w X.K X.mg X.base C f k sp) (hr : Room j X.A) (h : WE X e r G fun x r1 G1 => ∃ ds, vw r1 x = some (.ins C ds) ∧ sp [.ins C ds] G1 (fun z G2 => Q z r1 G2) (fun _ _ => False)) (hj : k + 1 ≤ j := by omega)
    (hb : attributeBase e f X.env (eval e X.env) = eval e X.env := by rfl) : WE X (.Attribute e f pos) r G Q := fun F0 T F H σ lk S => by
  obtain ⟨pa, g, fd, h1, h2, h3, h4, h5, h6⟩ := p.ex
  refine Run.of (SlX.pe_propSl (E := fun _ _ _ => False) peR c h1 h2 h3 h4 (fnr h5 h6) (hr.mono hj) (fun _ _ _ _ ⟨_, _, _, _, _, _, _, _, _, _, _, _, z⟩ => z) hb) ((h F0 T F H σ lk S).mono fun v H1 ⟨x, r1, G1, F1, e1, S1, k1, ds, q1, q2⟩ => ?_)
  obtain ⟨F1', e1', S1', hv⟩ := hold S1 k1
  have vv := hv F1' G1 H1 r1 _ (Ex.refl _) S1' (.inl q1)
  have rp : Rep X.K F1' (.ins C ds) v := by
    rcases vv with z | ⟨_, _, z⟩
    · exact z
    · exact z.elim
  obtain ⟨a, dx, vs, rfl, z1, z2⟩ := vv.ins S1'.bas.fh
  exact ⟨a, dx, vs.map some, rfl, z1, spD_of0 S1' (e1.trans e1') (.one rp) q2⟩
/-- a slot is read -/
theorem we_fld {f : Str} {C p : Addr} (i : Nat) {Q : Res → Env2 → GD → Prop} (c : SlX.SCls X.K C) (t : SlX.Slot1 X.K C f p i) (h : WE X e r G fun x r1 G1 => ∃ ds d, vw r1 x = some (.ins C ds) ∧ ds[i]? = some d ∧ Q (.sh d) r1 G1)
    (hb : attributeBase e f X.env (eval e X.env) = eval e X.env := by rfl) : WE X (.Attribute e f pos) r G Q := fun F0 T F H σ lk S => by
  refine Run.of (SlX.pe_sl peR hb) ((h F0 T F H σ lk S).mono fun v H1 ⟨x, r1, G1, F1, e1, S1, k1, ds, d, q1, q2, q3⟩ => ?_)
  obtain ⟨a, dx, vs, rfl, z1, z2⟩ := (S1.view k1 q1).ins S1.bas.fh
  obtain ⟨w, y1, y2⟩ := z2.get q2
  exact ⟨a, C, dx, p, vs.map some, i, w, rfl, z1, c, t, by rw [List.getElem?_map, y1]; rfl, .sh d, r1, G1, F1, e1, S1, y2, q3⟩
structure MethD (P : Program) (w : World) (K : PySem.W.Frag) (mg : Str → Option Value) (base : Heap) (C : Addr) (m : Str) (k : Nat) (ps : List Str) (sp : FSp) : Prop where
  ex : ∃ (g : Addr) (fd : FuncData), Meth K C m g ∧ FnOk P w K mg base (CX P w) k g fd ps (spD K sp) ∧ Binds K fd ps []
/-- as HandS.Slots' own, the wish by the slots -/
theorem run_fnRS {X : Cx} {CX : CXT} {k : Nat} {f : Addr} {sp : Sp} {E : L2.St → XK} {pins : List (Addr × Obj)} {σ : L2.St} {H : Hp} {s : Shared} {Q : VK} {us : List Value} {vs : List V} (F : FnR X.prog X.w X.K X.mg X.base CX k f sp) (hr : Room k X.A) (hx : PassesAt CX X σ (E σ)) (I : Inv X pins σ H s) (r : Vals vs us) (q : sp vs H Q (E σ)) :
    wpAny (model X.prog X.w) X.A (call (.ref f) us) (EP X pins σ Q) X.xe s := by
  refine wpAny_call (codeAny_mono (F X.A X.stack s H us vs Q (E σ) hr I.env0 r q) fun r s' hq => ?_)
  cases r with
  | error e => exact hx pins H s e s' I hq
  | ok fl =>
    cases fl with
    | ret u => exact I.after hq
    | next => exact False.elim hq
    | brk => exact False.elim hq
    | cont => exact False.elim hq
def tMethSlS (C : Addr) (sp : Sp) (E : L2.St → XK) (ta : TE) (t : TA) : TE := fun σ H Q => ta σ H fun x H1 => ∃ a dx vs, x = .ref a ∧ SlX.Slt H1 a C dx vs ∧ t σ H1 fun ws H2 => sp (x :: ws) H2 Q (E σ)
theorem pe_methSlS {X : Cx} {m : Str} {ta : TE} {t : TA} {CX : CXT} {k : Nat} {C g : Addr} {sp : Sp} {E : L2.St → XK} {pl : Sem Bool} (he : PE X o ta) (c : SlX.SCls X.K C) (hm : Meth X.K C m g) (F : FnR X.prog X.w X.K X.mg X.base CX k g sp) (hr : Room k X.A) (hx : ∀ σ, PassesAt CX X σ (E σ)) (ha : PA X (e :: es) t)
    (hst : starEach (e :: es) X.env = (false, eval e X.env) :: starEach es X.env := by rfl) (hpl : (backTo pos (starEach es X.env)).any (·.1) = false := by rfl)
    (ht : eval (.Call (.Attribute o m apos) (e :: es) [] pos) X.env = (do
      let ov ← eval o X.env
      standAt apos.atName
      let (f, first) ← holding [ov] (getMethod ov m pl)
      callWith pos f first (backTo pos (starEach (e :: es) X.env)) (backToKw pos (keywordEach [] X.env))) := by rfl) :
    PE X (.Call (.Attribute o m apos) (e :: es) [] pos) (tMethSlS C sp E ta t) := by
  refine ⟨fun pins s σ H Q I h => ?_⟩
  refine PySem.W.methodCall_KW (pl := pl) (thn (he.run pins s σ H _ I h) fun u s1 ⟨x, H1, I1, rx, a, dx, vs, ex, hsl, q⟩ => ?_) ht
  subst ex
  obtain rfl : u = Value.ref a := rx
  refine SlX.getmethsl_ok I1 hsl c hm ?_
  refine PySem.W.callWith_K (first := [.ref a]) (h₀ := X.base) I.ok.mod.kin hm.kp (thn (ha.run pos pins s1 σ H1 _ I1 q) fun us s2 ⟨ws, H2, I2, r, q2⟩ => ⟨I2.kIn, ?_⟩) hst hpl
  exact run_fnRS (us := .ref a :: us) (vs := .ref a :: ws) F hr (hx σ) I2 (.cons rfl r) q2
theorem pe_methSl0S {X : Cx} {m : Str} {ta : TE} {CX : CXT} {k : Nat} {C g : Addr} {sp : Sp} {E : L2.St → XK} {pl : Sem Bool} (he : PE X o ta) (c : SlX.SCls X.K C) (hm : Meth X.K C m g) (F : FnR X.prog X.w X.K X.mg X.base CX k g sp) (hr : Room k X.A) (hx : ∀ σ, PassesAt CX X σ (E σ))
    (ht : eval (.Call (.Attribute o m apos) [] [] pos) X.env = (do
      let ov ← eval o X.env
      standAt apos.atName
      let (f, first) ← holding [ov] (getMethod ov m pl)
      callWith pos f first (backTo pos (starEach [] X.env)) (backToKw pos (keywordEach [] X.env))) := by rfl) :
    PE X (.Call (.Attribute o m apos) [] [] pos) (tMethSlS C sp E ta tNil) := by
  refine ⟨fun pins s σ H Q I h => ?_⟩
  refine PySem.W.methodCall_KW (pl := pl) (thn (he.run pins s σ H _ I h) fun u s1 ⟨x, H1, I1, rx, a, dx, vs, ex, hsl, q⟩ => ?_) ht
  subst ex
  obtain rfl : u = Value.ref a := rx
  refine SlX.getmethsl_ok I1 hsl c hm ?_
  exact PySem.W.callWith_K0 (first := [.ref a]) I1.kIn hm.kp (run_fnRS (us := [.ref a]) (vs := [.ref a]) F hr (hx σ) I1 (.cons rfl .nil) q)
/-- the class of data, as far as isinstance asks -/
def tyD : D → Option Value
  | .non => some (.type "NoneType")
  | .bl _ => some (.type "bool")
  | .int _ => some (.type "int")
  | .str _ => some (.type "str")
  | .tup _ => some (.type "tuple")
  | .lst _ => some (.type "list")
  | .dic _ _ => some (.type "dict")
  | _ => none
theorem tyX_of {K : PySem.W.Frag} {F H : Hp} {d : D} {v : V} {t : Value} (ex : Ex F H) (h : Vw K F H d v) (e : tyD d = some t) : TyX K H v t := by
  cases d with
  | non => cases e; cases h.non; exact .base .non
  | bl b => cases e; cases h.bl; exact .base (.bl b)
  | int b => cases e; cases h.int; exact .base (.int b)
  | str b => cases e; cases h.str; exact .base (.str b)
  | tup ds =>
    cases e
    obtain ⟨a, vs, rfl, z1, _⟩ := h.tup ex
    rcases z1 with (z | ⟨ob, z⟩) | ⟨ob, its, n, z, zc, _⟩
    · exact .base (.tup z)
    · exact .fTuple z
    · exact .kTuple z zc
  | lst ds =>
    cases e
    obtain ⟨a, vs, rfl, z1, _⟩ := h.lst ex
    rcases z1 with z | ⟨ob, z⟩
    · exact .base (.lst z)
    · exact .base (.frz z)
  | dic ks ds =>
    cases e
    obtain ⟨a, vs, rfl, z1, _⟩ := h.dic ex
    rcases z1 with z | ⟨ob, z⟩
    · exact .base (.dK z)
    · exact .fDict z
  | ins C ds => cases e
  | adr a => cases e
  | obj _ _ _ => cases e
  | slo _ _ _ _ => cases e
  | xdo _ _ => cases e
  | scr _ => cases e
  | tab _ => cases e
  | hob _ _ => cases e
  | kd _ _ _ => cases e
/-- isinstance(x, T), T a built-in class -/
theorem we_isi {x y : Str} {n : String} {py : Pos} {Q : Res → Env2 → GD → Prop} (hg : Gl X x) (hm : X.mg x = none) (hv : bootBuiltins x = some (.builtin "isinstance")) (hg2 : Gl X y) (hm2 : X.mg y = none) (hv2 : bootBuiltins y = some (.type n))
    (h : WE X a r G fun z r1 G1 => ∃ d t c, VwR r1 G1 z d ∧ tyD d = some t ∧ PySem.W.kitOne X.K t (.type n) = some c ∧ Q (.sh (.bl c)) r1 G1)
    (hn : x ≠ "__name__" := by decide) (hdb : (x == ("__debug__" : Str)) = false := by decide) (hn2 : y ≠ "__name__" := by decide) (hdb2 : (y == ("__debug__" : Str)) = false := by decide)
    (he : starEach [a, .Name y py] X.env = (false, eval a X.env) :: starEach [.Name y py] X.env := by rfl) (he2 : starEach [.Name y py] X.env = (false, eval (.Name y py) X.env) :: starEach [] X.env := by rfl) (hpl : (backTo pos (starEach [.Name y py] X.env)).any (·.1) = false := by rfl) :
    WE X (.Call (.Name x p0) [a, .Name y py] [] pos) r G Q := fun F0 T F H σ lk S =>
  Run.of (pe_callB call_isi hg hm hv (pa_cons peR (pa_cons (pe_bltn (v := .ty n) hg2 hm2 hv2 rfl hn2 hdb2) pa_nil he2) he) hn hdb he hpl) ((h F0 T F H σ lk S).mono fun v H1 ⟨z, r1, G1, F1, e1, S1, k1, d, t, c, q1, q2, q3, q4⟩ =>
    ⟨v, .ty n, t, .type n, c, rfl, .ty n, tyX_of S1.bas.fh (S1.viewR k1 q1) q2, q3, .sh (.bl c), r1, G1, F1, e1, S1, rfl, q4⟩)
/-- .. x an instance with slots -/
theorem we_isiI {x y : Str} {C C' : Addr} {py : Pos} {Q : Res → Env2 → GD → Prop} (hg : Gl X x) (hm : X.mg x = none) (hv : bootBuiltins x = some (.builtin "isinstance")) (hg2 : Gl X y) (hm2 : X.mg y = some (.ref C')) (cc : SlX.SCls X.K C) (ci : SlX.SIsi X.K C)
    (h : WE X a r G fun z r1 G1 => ∃ ds c, vw r1 z = some (.ins C ds) ∧ PySem.W.kitOne X.K (.ref C) (.ref C') = some c ∧ Q (.sh (.bl c)) r1 G1)
    (hn : x ≠ "__name__" := by decide) (hdb : (x == ("__debug__" : Str)) = false := by decide) (hdb2 : (y == ("__debug__" : Str)) = false := by decide)
    (he : starEach [a, .Name y py] X.env = (false, eval a X.env) :: starEach [.Name y py] X.env := by rfl) (he2 : starEach [.Name y py] X.env = (false, eval (.Name y py) X.env) :: starEach [] X.env := by rfl) (hpl : (backTo pos (starEach [.Name y py] X.env)).any (·.1) = false := by rfl) :
    WE X (.Call (.Name x p0) [a, .Name y py] [] pos) r G Q := fun F0 T F H σ lk S =>
  Run.of (pe_callB (SlX.call_isiSl (.ref C')) hg hm hv (pa_cons peR (pa_cons (pe_glob (v := .ref C') hg2 hm2 rfl hdb2) pa_nil he2) he) hn hdb he hpl) ((h F0 T F H σ lk S).mono fun v H1 ⟨z, r1, G1, F1, e1, S1, k1, ds, c, q1, q3, q4⟩ => by
    obtain ⟨ad, dx, vs, rfl, z1, z2⟩ := (S1.view k1 q1).ins S1.bas.fh
    exact ⟨ad, C, dx, vs.map some, .ref C', c, rfl, rfl, fun w hw => hw, z1, cc, ci, q3, .sh (.bl c), r1, G1, F1, e1, S1, rfl, q4⟩)
abbrev FSpI := List D → GD → (List D → GD → Prop) → (Exn → GD → Prop) → Prop
def spI (K : PySem.W.Frag) (C : Addr) (f : FSpI) : Sp := fun vs H Q E => ∃ (x dx : Addr) (us : List V) (F : Hp) (G : GD) (ds : List D) (post : List D → GD → Prop) (px : Exn → GD → Prop), vs = .ref x :: us ∧ H x = some (.ins C dx []) ∧ H dx = some (.own x) ∧ dx ≠ x ∧ F x = none ∧ F dx = none ∧ G x = none ∧ G dx = none ∧
  Ex F H ∧ (∀ a d, G a = some d → Own K F H a d) ∧ (∀ a o, G a = some o → F a = none) ∧ RepL K F ds us ∧ f ds G post px ∧
  (∀ ys G' H' F', post ys G' → Bas K F (fun a => if a = x ∨ a = dx then none else Tof G H a) F' G' H' → Rep K F' (.ins C ys) (.ref x) → Q .non H') ∧
  ∀ xn cls d G' H' F', px xn G' → Bas K F (fun a => if a = x ∨ a = dx then none else Tof G H a) F' G' H' → ExOk K F' cls d xn → E cls d H'
structure MakeD (P : Program) (w : World) (K : PySem.W.Frag) (mg : Str → Option Value) (base : Heap) (x : Str) (C : Addr) (k : Nat) (ps : List Str) (f : FSpI) : Prop where
  ex : ∃ (g : Addr) (fd : FuncData), Mk K C g ∧ mg x = some (.ref C) ∧ FnOk P w K mg base (CX P w) k g fd ps (spI K C f) ∧ Binds K fd ps []
def tMakeS (C : Addr) (sp : Sp) (E : L2.St → XK) (t : TA) : TE := fun σ H Q => t σ H fun vs H1 => ∀ x dx, H1 x = none → H1 dx = none → dx ≠ x →
  sp (.ref x :: vs) (upd (upd H1 dx (.own x)) x (.ins C dx [])) (fun v H2 => v = .non ∧ Q (.ref x) H2) (E σ)
theorem run_makeS {X : Cx} {CX : CXT} {k : Nat} {f C : Addr} {fd : FuncData} {ps : List Str} {sp : Sp} {E : L2.St → XK} {pins : List (Addr × Obj)} {σ : L2.St} {H : Hp} {s : Shared} {Q : VK} {us : List Value} {vs : List V} (M : Mk X.K C f) (F : FnOk X.prog X.w X.K X.mg X.base CX k f fd ps sp) (hr : Room (k + 1) X.A) (hb : Binds X.K fd ps [])
    (hx : PassesAt CX X σ (E σ)) (I : Inv X pins σ H s) (r : Vals vs us)
    (h : ∀ x dx, H x = none → H dx = none → dx ≠ x → sp (.ref x :: vs) (upd (upd H dx (.own x)) x (.ins C dx [])) (fun v H2 => v = .non ∧ Q (.ref x) H2) (E σ)) :
    wpAny (model X.prog X.w) X.A (call (.ref C) us) (EP X pins σ Q) X.xe s := by
  have hq := h (s.heap.objs.size + 1) s.heap.objs.size (I.hok.fresh (Nat.le_succ _)) (I.hok.fresh (Nat.le_refl _)) (Nat.ne_of_lt (Nat.lt_succ_self _))
  have I2 := Inv.made (C := C) I
  have r2 : Vals (V.ref (s.heap.objs.size + 1) :: vs) (Value.ref (s.heap.objs.size + 1) :: us) := .cons rfl r
  have hl : (Value.ref (s.heap.objs.size + 1) :: us ++ []).length = ps.length := by
    rw [List.append_nil]
    have e := r2.length
    rw [F.len _ _ _ _ hq] at e
    exact e.symm
  have hbb := hb _ (Value.ref (s.heap.objs.size + 1) :: us) I2.kIn hl
  rw [List.append_nil] at hbb
  refine wpAny_call (make_map (f := f) I.kIn M.makes M.init (beq_iff_eq.mp M.fn) (codeAny_mono (F.run _ X.stack _ _ ⟨Value.ref (s.heap.objs.size + 1) :: us, []⟩ (Value.ref (s.heap.objs.size + 1) :: us) _ _ (E σ) (hr.make C us [])
    (I2.env0.make C us []) hbb r2 hq) fun r s' hq' => ?_))
  cases r with
  | error e => exact hx pins _ _ e s' I2 hq'
  | ok fl =>
    cases fl with
    | ret u =>
      obtain ⟨v, H', I3, rv, ev, q3⟩ := I2.after hq'
      subst ev
      exact ⟨rv, ⟨V.ref (s.heap.objs.size + 1), H', I3, rfl, q3⟩⟩
    | next => exact False.elim hq'
    | brk => exact False.elim hq'
    | cont => exact False.elim hq'
theorem pe_makeS {X : Cx} {CX : CXT} {k : Nat} {f C : Addr} {fd : FuncData} {ps : List Str} {sp : Sp} {E : L2.St → XK} {x : Str} {p : Pos} {t : TA} (M : Mk X.K C f) (F : FnOk X.prog X.w X.K X.mg X.base CX k f fd ps sp) (hr : Room (k + 1) X.A) (hg : Gl X x) (hm : X.mg x = some (.ref C)) (hb : Binds X.K fd ps []) (hx : ∀ σ, PassesAt CX X σ (E σ))
    (ha : PA X (e :: es) t) (hdb : (x == ("__debug__" : Str)) = false := by decide) (he : starEach (e :: es) X.env = (false, eval e X.env) :: starEach es X.env := by rfl) (hpl : (backTo pos (starEach es X.env)).any (·.1) = false := by rfl) :
    PE X (.Call (.Name x p) (e :: es) [] pos) (tMakeS C sp E t) := by
  refine ⟨fun pins s σ H Q I h => ?_⟩
  refine wpAny_Call_Name_kw (ld_glob I hg hm ?_ hdb)
  refine PySem.W.callWith_K (h₀ := X.base) I.ok.mod.kin M.kp (thn (ha.run pos pins s σ H _ I h) fun us s1 ⟨vs, H1, I1, r, q⟩ => ⟨I1.kIn, ?_⟩) he hpl
  exact run_makeS M F hr hb (hx σ) I1 r q
theorem make_base {K : PySem.W.Frag} {F1 F' H1 H' : Hp} {G1 G' : GD} {ad dx C : Addr} (ha : H1 ad = none) (hd : H1 dx = none) (ex1 : Ex H1 (upd (upd H1 dx (.own ad)) ad (.ins C dx [])))
    (B : Bas K F1 (fun a => if a = ad ∨ a = dx then none else Tof G1 (upd (upd H1 dx (.own ad)) ad (.ins C dx [])) a) F' G' H') : Bas K F1 (Tof G1 H1) F' G' H' := by
  have sub : ∀ q u, Tof G1 H1 q = some u → (if q = ad ∨ q = dx then none else Tof G1 (upd (upd H1 dx (.own ad)) ad (.ins C dx [])) q) = some u := fun q u hq => by
    have hG : G1 q = none := by
      cases eg : G1 q with
      | none => rfl
      | some o => rw [Tof_some eg] at hq; cases hq
    rw [Tof_none hG] at hq
    have n1 : q ≠ ad := ne_of_none hq ha
    have n2 : q ≠ dx := ne_of_none hq hd
    rw [if_neg (by simp [n1, n2]), Tof_none hG]
    exact ex1 q u hq
  have down : ∀ q, (if q = ad ∨ q = dx then none else Tof G1 (upd (upd H1 dx (.own ad)) ad (.ins C dx [])) q) = none → Tof G1 H1 q = none := fun q z => by
    cases et : Tof G1 H1 q with
    | none => rfl
    | some w => rw [sub q w et] at z; cases z
  exact ⟨B.ff, fun q u hq => (B.ft q u hq).imp id (down q), B.fh, B.gh, B.fg, fun q u hq => down q (B.gt q u hq), fun q u hq => B.tk q u (sub q u hq)⟩
theorem we_make {x : Str} {C : Addr} {k j : Nat} {ps : List Str} {f : FSpI} {Q : Res → Env2 → GD → Prop} (tk : X.Tk) (M : MakeD X.prog X.w X.K X.mg X.base x C k ps f) (hr : Room j X.A) (hg : Gl X x) (h : WA X (e :: es) r G fun ds r1 G1 => f ds G1 (fun ys G2 => Q (.sh (.ins C ys)) r1 G2) (fun xn G2 => X.QX xn r1 G2)) (hj : k + 1 ≤ j := by omega)
    (hdb : (x == ("__debug__" : Str)) = false := by decide) (he : starEach (e :: es) X.env = (false, eval e X.env) :: starEach es X.env := by rfl) (hpl : (backTo pos (starEach es X.env)).any (·.1) = false := by rfl) : WE X (.Call (.Name x p0) (e :: es) [] pos) r G Q := fun F0 T F H σ lk S => by
  obtain ⟨g, fd, h1, h2, h3, h4⟩ := M.ex
  refine Run.of (pe_makeS h1 h3 (hr.mono hj) hg h2 h4 (fun σ => passAt tk σ) paR hdb he hpl) ((h F0 T F H σ lk S).mono fun vs H1 ⟨ds, r1, G1, F1, e1, S1, k1, q1⟩ => ?_)
  intro ad dx ha hd hne
  obtain ⟨f1, f2, f3⟩ := S1.bas.freshF ha
  obtain ⟨g1, g2, g3⟩ := S1.bas.freshF hd
  have ex1 : Ex H1 (upd (upd H1 dx (.own ad)) ad (.ins C dx [])) := fun q u hq => by
    rw [upd_ne (ne_of_none hq ha), upd_ne (ne_of_none hq hd)]; exact hq
  refine ⟨ad, dx, vs, F1, G1, ds, _, _, rfl, upd_same, by rw [upd_ne hne, upd_same], hne, f1, g1, f2, g2, S1.bas.fh.trans ex1, S1.bas.gmono (Ex.refl _) fun a o _ h => ex1 a o h, S1.bas.fg, k1, q1, fun ys G' H' F' hp B rp => ⟨rfl, ?_⟩, fun xn cls d G' H' F' hp B ex => ?_⟩
  · have B' := make_base ha hd ex1 B
    exact ⟨.sh (.ins C ys), r1, G', F', e1.trans B'.ff, S1.after B', rp, hp⟩
  · have B' := make_base ha hd ex1 B
    exact ⟨r1, G', F', xn, lk.sta (S1.after B'), ex, hp⟩
/-- a block, then statements by hand -/
theorem execs_app (env : Env) (post : List Stmt) : ∀ pre : List Stmt, execs (pre ++ post) env = execs pre env >>= fun f => match f with
    | .next => execs post env
    | f => pure f
  | [] => by
    rw [List.nil_append, execs, pure_bind]
  | st :: pre => by
    rw [List.cons_append, execs, execs, bind_assoc]
    congr 1
    funext f
    cases f with
    | next => exact execs_app env post pre
    | brk => rw [pure_bind]
    | cont => rw [pure_bind]
    | ret v => rw [pure_bind]
theorem runB_then {pre post : List Stmt} {E : Ends} {σ : L2.St} {H : Hp} (h : RunB X pre { E with nx := fun σ' H' => RunB X post E σ' H' } σ H) : RunB X (pre ++ post) E σ H := fun pins s I => by
  rw [execs_app]
  refine wpAny_bind (wpAny_mono (h pins s I) (fun f s' q => ?_) fun _ _ x => x)
  cases f with
  | next => obtain ⟨σ', H', I', q⟩ := q; exact q pins s' I'
  | brk => exact wpAny_pure q
  | cont => exact wpAny_pure q
  | ret v => exact wpAny_pure q
end
theorem bt_len : bootBuiltins "len" = some (.builtin "len") := by decide +kernel
theorem bt_int : bootBuiltins "int" = some (.type "int") := by decide +kernel
theorem bt_list : bootBuiltins "list" = some (.type "list") := by decide +kernel
theorem bt_tuple : bootBuiltins "tuple" = some (.type "tuple") := by decide +kernel
theorem bt_bool : bootBuiltins "bool" = some (.type "bool") := by decide +kernel
theorem bt_str : bootBuiltins "str" = some (.type "str") := by decide +kernel
theorem bt_sorted : bootBuiltins "sorted" = some (.builtin "sorted") := by decide +kernel
theorem bt_isinstance : bootBuiltins "isinstance" = some (.builtin "isinstance") := by decide +kernel
theorem bt_min : bootBuiltins "min" = some (.builtin "min") := by decide +kernel
theorem bt_max : bootBuiltins "max" = some (.builtin "max") := by decide +kernel
section
variable {prog : Program} {w : World} {A : Around} {E : Value → Shared → Prop} {s : Shared}
abbrev tIt (t : Addr) : Obj := { cls := .type "tuple_iterator", data := .fields #[.ref t, .int 0 0] }
abbrev enO (i : Addr) : Obj := { cls := .type "enumerate", data := .fields #[.none, .bool false, .ref i, rawInt 0, .none, .none] }
theorem meets_enumT (t : Addr) (its : Array Value) (o : Obj) (n : Nat) (ho : o.cls = .type "tuple" ∧ o.data = .seq its n) :
    Meets (Builtin.«enumerate.__new__» ⟨[.type "enumerate", .ref t], []⟩) (fun _ R s => s.heap.get? t = some o ∧
      R (.ok (.ret (.ref (s.heap.push (tIt t)).objs.size))) { s with heap := (s.heap.push (tIt t)).push (enO s.heap.objs.size) }) :=
  .of_wp fun prog w A R s h => by
    obtain ⟨c, dc, dt, sl⟩ := o
    obtain ⟨h1, h2⟩ := ho
    cases h1
    obtain ⟨hp, g, d, tk, os⟩ := s; obtain ⟨hl, h⟩ := h
    have sub := sub_enumerate
    have tup : Heap.IsTuple (Shared.heap ⟨hp, g, d, tk, os⟩) t its := ⟨_, hl, rfl, _, h2⟩
    wp_walk using AutoSeq1.wpAny_loadPart' hl
    refine wpAny_stack_any fun st => wpAny_pure ?_
    split
    · rename_i c _ _ _ _ _
      cases (c == Value.type "enumerate")
      all_goals
        wp_walk using AutoSeq1.wpAny_loadPart' hl, wpAny_pyIter_tuple tup
        exact ⟨_, rfl, h⟩
    · wp_walk using AutoSeq1.wpAny_loadPart' hl, wpAny_pyIter_tuple tup
      exact ⟨_, rfl, h⟩
theorem callEnumT {t : Addr} {its : Array Value} {Q : Value → Shared → Prop} (ht : s.heap.IsTuple t its)
    (h : ∀ h', IsEnum h' (s.heap.objs.size + 1) s.heap.objs.size 0 .none → h'.IsTupleIter s.heap.objs.size t 0 → (∀ b o, s.heap.get? b = some o → h'.get? b = some o) → Q (.ref (s.heap.objs.size + 1)) { s with heap := h' }) :
    wpAny (model prog w) A (call (.type "enumerate") [.ref t]) Q E s := by
  obtain ⟨o, ho, hc, n, hd⟩ := ht
  refine callType_new F.called_enumerate (by decide) (F.typeCall_enumerate_1 _) (F.newCall_enumerate_1 _) (fun obj => F.args_object_init_2 obj _) F.entry_enumerate_new (meets_enumT t its o n ⟨hc, hd⟩) ⟨ho, ?_⟩
  have z : (s.heap.push (tIt t)).objs.size = s.heap.objs.size + 1 := Heap.size_push ..
  show _ ∧ _
  rw [z]
  have he : IsEnum ((s.heap.push (tIt t)).push (enO s.heap.objs.size)) (s.heap.objs.size + 1) s.heap.objs.size 0 .none := by
    have q := Heap.get?_push_size (s.heap.push (tIt t)) (o := enO s.heap.objs.size) rfl
    rw [z] at q
    exact q
  exact ⟨⟨_, he, rfl⟩, h _ he ⟨_, Heap.get?_push_of_some _ (Heap.get?_push_size _ rfl), rfl, rfl⟩ fun b o x => Heap.get?_push_of_some _ (Heap.get?_push_of_some _ x)⟩
end
/-- the tuple at a, each item in a new pair -/
def ItU (K : PySem.W.Frag) (a : Addr) : It :=
  ⟨fun i H => ∃ (xs : List V) (x : V), SqT K H a xs ∧ xs[i]? = some x, fun i H v H' => ∃ T x, v = .ref T ∧ H T = none ∧ H' = upd H T (.tup [.int (i : Nat), x]) ∧ ∀ xs, SqT K H a xs → xs[i]? = some x, fun i H => ∃ xs : List V, SqT K H a xs ∧ xs.length = i⟩
theorem turn_enumT {P : Program} {w : World} {K : PySem.W.Frag} {elts : List Expr} {kk : Nat} {tpos : Pos} (a e it : Addr) (hae : a ≠ e) (hai : a ≠ it) :
    Turn P w K (.Tuple elts kk tpos) (ItU K a) [e, it] e (fun i h => (∃ old, IsEnum h e it ((i : Nat) : Int) old) ∧ h.IsTupleIter it a i ∧ e ≠ it) where
  mem := by simp
  obj := fun i h st b hb => by
    obtain ⟨⟨old, he⟩, ⟨o, ho, hc, hd⟩, _⟩ := st
    rcases (by simpa using hb : b = e ∨ b = it) with z | z
    · rw [z]; exact ⟨_, he, fun v q => nomatch q⟩
    · rw [z]; exact ⟨o, ho, fun v q => by rw [hd] at q; cases q⟩
  keep := fun i h h' ⟨⟨old, he⟩, hi, hne⟩ k => ⟨⟨old, k e (by simp) _ he⟩, hi.at fun o q => k it (by simp) o q, hne⟩
  item := by
    intro X hP hw hK hc i pins s σ H E I hf st hg
    subst hP hw hK
    obtain ⟨⟨old, he⟩, hit, hne⟩ := st
    obtain ⟨xs, x, hq, hx⟩ := hg
    obtain ⟨its, rv, p, hz⟩ := I.tuple hq
    obtain ⟨u, hu, ru⟩ := rv.get hx
    have hel : e < s.heap.objs.size := Heap.lt_size he
    have hil : it < s.heap.objs.size := by obtain ⟨_, q, _⟩ := hit; exact Heap.lt_size q
    have dr := Draws.tuple (prog := X.prog) (w := X.w) (A := X.A.in1) (I.ok.hd hc) it a hai its.toArray
    have lt : i < its.toArray.size := by
      have := (List.getElem?_eq_some_iff.mp hu).1
      simpa using this
    refine wpAny_pyNext_enum_itemD dr he ⟨hit, p⟩ lt hne (by simp [hne, hae.symm]) fun x' h' tk hv ho hit' hT hsz hk => ?_
    have ex : x' = u := by
      have : its[i]? = some x' := by simpa using hv
      rw [hu] at this; cases this; rfl
    subst ex
    refine ⟨_, rfl, wpAny_letOwnedTupleGo_enum (s := { s with heap := h', toks := tk + 1 }) ho fun h'' he' sb => ?_⟩
    have hT2 : h''.get? s.heap.objs.size = some { cls := .type "tuple", data := .seq #[.int i tk, x'] } := (sb.2 _ (Nat.ne_of_gt hel)).trans hT
    have new : ObjOk X.prog X.w (upd H s.heap.objs.size (.tup [.int (i : Nat), x])) h'' s.heap.objs.size (.tup [.int (i : Nat), x]) :=
      ⟨by show 2 ≤ sizeLine; decide, [.int i tk, x'], .cons ⟨_, rfl⟩ (.cons ru .nil), ⟨_, hT2, rfl, _, rfl⟩⟩
    have I1 : Inv X pins σ (upd H s.heap.objs.size (.tup [.int (i : Nat), x])) { s with heap := h'', toks := tk + 1 } :=
      I.turnedNew (ch := [e, it]) (fun b ob hb q => (sb.2 b (fun z => hb (by simp [z]))).trans (hk b ob (fun z => hb (by simp [z])) (fun z => hb (by simp [z])) q)) hf (Nat.le_refl _) new
    refine ⟨.ref s.heap.objs.size, _, I1, rfl, ⟨_, x, rfl, I.hok.fresh (Nat.le_refl _), rfl, fun ys hy => by rw [I.tuple_inj hy hq]; exact hx⟩, ⟨⟨x', he'⟩, hit'.1.at fun o q => (sb.2 it (Ne.symm hne)).trans q, hne⟩, fun b hb => ?_⟩
    have hb' : b < s.heap.objs.size := by
      rcases (by simpa using hb : b = e ∨ b = it) with z | z
      · rw [z]; exact hel
      · rw [z]; exact hil
    rw [upd_ne (Nat.ne_of_lt hb')]
    exact (hf b hb).1
  done := by
    intro X hP hw hK hc i pins s σ H E I hf st hg
    subst hP hw hK
    obtain ⟨⟨old, he⟩, hit, hne⟩ := st
    obtain ⟨xs, hq, hx⟩ := hg
    obtain ⟨its, rv, p, hz⟩ := I.tuple hq
    obtain ⟨f0, f1, f2, f3, f4, f5⟩ := hf it (by simp)
    have hl : its.toArray.size = i := by
      have := rv.length
      simp
      omega
    subst hl
    exact wpAny_pyNext_enum_endD (Draws.tuple (prog := X.prog) (w := X.w) (A := X.A.in1) (I.ok.hd hc) it a hai its.toArray) he ⟨hit, p⟩ fun h' eb => ⟨rfl, I.turned (t' := s.toks) (fun b o hb q => eb b o hb q) f0 f1 f3 f4 f5⟩
  self := fun A i s Q E ⟨⟨_, he⟩, _⟩ h => wpAny_pyIter_enum he h
def iEnumT (K : PySem.W.Frag) (ta : TA) : TI := fun σ H R => ta σ H fun vs H1 => ∃ a xs, vs = [.ref a] ∧ SqT K H1 a xs ∧ R (ItU K a) H1
theorem pi_enumT {X : Cx} {e : Expr} {ta : TA} {p pos tpos : Pos} {elts : List Expr} {kk : Nat} (hg : Gl X "enumerate") (hm : X.mg "enumerate" = none) (ha : PA X [e] ta) (hs : starEach [e] X.env = [(false, eval e X.env)] := by rfl) :
    PI X (.Tuple elts kk tpos) (.Call (.Name "enumerate" p) [e] [] pos) (iEnumT X.K ta) := by
  refine ⟨fun pins s σ H R I h => ?_⟩
  refine Call_ (ld_blt I hg hm boot_enumerate (PyProof.Rows.callWith_type1 (thn (ha.run pos pins s σ H _ I h) fun us s1 ⟨vs, H1, I1, r1, q1⟩ => ?_) hs rfl))
  obtain ⟨a, xs, ex, hq, q⟩ := q1
  subst ex
  cases r1 with
  | cons rl rr =>
    cases rr
    cases rl
    obtain ⟨its, rv, p', hz⟩ := I1.tuple hq
    have ha : a < s1.heap.objs.size := by obtain ⟨_, z, _⟩ := p'; exact Heap.lt_size z
    refine callEnumT (show s1.heap.IsTuple a its.toArray from p') fun h' he hit hk => wpAny_pyIter_enum he ?_
    refine ⟨s1.heap.objs.size + 1, [s1.heap.objs.size + 1, s1.heap.objs.size], _, _, H1, rfl, I1.kept (t' := s1.toks) hk, turn_enumT a (s1.heap.objs.size + 1) s1.heap.objs.size (Nat.ne_of_lt (Nat.lt_succ_of_lt ha)) (Nat.ne_of_lt ha), ⟨⟨.none, he⟩, hit, Nat.succ_ne_self _⟩, fun b hb => ?_, q⟩
    have hle : s1.heap.objs.size ≤ b := by
      rcases (by simpa using hb : b = s1.heap.objs.size + 1 ∨ b = s1.heap.objs.size) with z | z
      · rw [z]; exact Nat.le_succ _
      · rw [z]; exact Nat.le_refl _
    exact I1.fpOk hle (I1.hok.fresh hle)
def enumD (k : Nat) : List D → List D
  | [] => []
  | d :: ds => .tup [.int (k : Nat), d] :: enumD (k + 1) ds
theorem enumD_len : ∀ (ds : List D) (k : Nat), (enumD k ds).length = ds.length
  | [], _ => rfl
  | d :: ds, k => by unfold enumD; rw [List.length_cons, List.length_cons, enumD_len ds]
theorem enumD_get : ∀ {ds : List D} {k i : Nat} {x : D}, (enumD k ds)[i]? = some x → ∃ d, ds[i]? = some d ∧ x = .tup [.int ((k + i : Nat) : Int), d]
  | [], k, i, x, h => by simp [enumD] at h
  | d :: ds, k, 0, x, h => by
    unfold enumD at h
    simp at h
    exact ⟨d, rfl, h.symm⟩
  | d :: ds, k, i + 1, x, h => by
    unfold enumD at h
    rw [List.getElem?_cons_succ] at h
    obtain ⟨d', h1, h2⟩ := enumD_get h
    exact ⟨d', by rw [List.getElem?_cons_succ]; exact h1, by rw [h2, show k + 1 + i = k + (i + 1) by omega]⟩
theorem rep_pair {K : PySem.W.Frag} {F : Hp} {p : Addr} {d1 d2 : D} {v1 v2 : V} (hp : F p = none) (h1 : Rep K F d1 v1) (h2 : Rep K F d2 v2) : Rep K (upd F p (.tup [v1, v2])) (.tup [d1, d2]) (.ref p) :=
  ⟨p, [v1, v2], rfl, .inl (.inl upd_same), v1, [v2], rfl, Rep.mono (Ex.new hp) _ _ h1, .one (Rep.mono (Ex.new hp) _ _ h2)⟩
theorem none_F {F H : Hp} (e : Ex F H) {p : Addr} (h : H p = none) : F p = none := none_of e h
section
variable {X : Cy} {e e2 a b c o tg : Expr} {es elts : List Expr} {kk : Nat} {st : Stmt} {sts rest body orelse : List Stmt} {r : Env2} {G : GD} {pos tpos apos cpos p0 : Pos} {D0 : EndsD}
theorem wi_enumT {Q : List D → Env2 → GD → Prop} (hg : Gl X "enumerate") (hm : X.mg "enumerate" = none) (h : WE X a r G fun x r1 G1 => ∃ ds r2, fz r1 x = some (.tup ds, r2) ∧ (ds.length ≤ LIM → Q (enumD 0 ds) r2 G1)) (hst : starEach [a] X.env = [(false, eval a X.env)] := by rfl) :
    WI X (.Tuple elts kk tpos) (.Call (.Name "enumerate" p0) [a] [] pos) r G Q := fun F0 T F H σ lk S =>
  RunI.of (pi_enumT hg hm (pa_cons peR pa_nil hst) hst) ((h F0 T F H σ lk S).bl.mono fun v H1 ⟨bl, x, r1, G1, F1, e1, S1, k1, ds, r2, q1, q2⟩ => by
    obtain ⟨Fa, e2, Sa, rp⟩ := S1.fz k1 q1
    obtain ⟨ad, vs, rfl, z1, z2⟩ := rp
    have hlim : ds.length ≤ LIM := by rw [← z2.length]; exact bl.2.1 ad vs (Sa.bas.fh.sqT z1)
    refine ⟨ad, vs, rfl, Sa.bas.fh.sqT z1, enumD 0 ds, r2, G1, Fa, e1.trans e2, Sa, fun F H ea eh => ⟨⟨vs, eh.sqT (ea.sqT z1), by rw [enumD_len, z2.length]⟩, fun i d hi => ?_⟩, q2 hlim⟩
    obtain ⟨d', hd, rfl⟩ := enumD_get hi
    obtain ⟨v, h1, h2⟩ := z2.get hd
    refine ⟨⟨vs, v, eh.sqT (ea.sqT z1), h1⟩, fun x H' ⟨p, y, hx, hp, hH, hy⟩ => .inr ⟨p, _, hp, hH, hx, ?_⟩⟩
    have := hy vs (eh.sqT (ea.sqT z1))
    rw [h1] at this; cases this
    rw [Nat.zero_add]
    exact rep_pair (none_F eh hp) rfl (Rep.mono ea _ _ h2))
def kD : Key → D
  | .inl n => .int n
  | .inr s => .str s
theorem kD_rep {K : PySem.W.Frag} {F : Hp} (k : Key) : Rep K F (kD k) (kV k) := by cases k <;> rfl
theorem zip_get' {α β : Type} {xs : List α} {ys : List β} {i : Nat} {p : α × β} (h : (xs.zip ys)[i]? = some p) : xs[i]? = some p.1 ∧ ys[i]? = some p.2 := by
  obtain ⟨a, b⟩ := p
  exact List.getElem?_zip_eq_some.mp h
theorem zip_len {α β : Type} {xs : List α} {ys : List β} (h : xs.length = ys.length) : (xs.zip ys).length = xs.length := by rw [List.length_zip, h, Nat.min_self]
theorem Vw.loc {K : PySem.W.Frag} {F0 T F : Hp} {G : GD} {H : Hp} {r r2 : Env2} {σ : L2.St} {x : Res} {v : V} {ks : List Key} {ds : List D} (S : Sta K F0 T F G H r σ) (h : ResOk K T F G H r σ x v) (e : fz r x = some (.dic ks ds, r2)) : r2 = r ∧ Rep K F (.dic ks ds) v := by
  cases x with
  | sh d => cases e; exact ⟨rfl, h⟩
  | fr d =>
    have e' : (if isDic d then none else some (d, r)) = some (.dic ks ds, r2) := e
    split at e'
    · cases e'
    · rename_i hd
      cases e'
      exact absurd rfl hd
  | pk i =>
    obtain ⟨h1, d', h2⟩ := h
    have e' : (match r[i]? with | some (.own d) => if isDic d then none else some (d, r.set i (.sh d)) | _ => none) = some (.dic ks ds, r2) := e
    rw [h2] at e'
    dsimp only at e'
    split at e'
    · cases e'
    · rename_i hd
      cases e'
      exact absurd rfl hd
theorem wi_keys {Q : List D → Env2 → GD → Prop} (h : WE X e r G fun x r1 G1 => ∃ ks ds r2, fz r1 x = some (.dic ks ds, r2) ∧ (ks.length ≤ LIM → Q (ks.map kD) r2 G1)) : WI X tg e r G Q := fun F0 T F H σ lk S =>
  RunI.of (pi_keys peR) ((h F0 T F H σ lk S).bl.mono fun v H1 ⟨bl, x, r1, G1, F1, e1, S1, k1, ks, ds, r2, q1, q2⟩ => by
    obtain ⟨rfl, rp⟩ := Vw.loc S1 k1 q1
    obtain ⟨ad, ob, vs, rfl, z1, z2, z3⟩ := rp
    have hl : ks.length = vs.length := by rw [z3.length]; exact z2
    have hlim : ks.length ≤ LIM := by have := bl.2.2 ad _ (.inr ⟨ob, S1.bas.fh _ _ z1⟩); rw [zip_len hl] at this; exact this
    refine ⟨ad, ob, rfl, .inl ⟨_, S1.bas.fh _ _ z1, ks.map kD, r2, G1, F1, e1, S1, fun F H ea eh => ⟨⟨eh _ _ (ea _ _ z1), by rw [List.length_map, zip_len hl]; exact Nat.le_refl _⟩, fun i d hi => ?_⟩, q2 hlim⟩⟩
    rw [List.getElem?_map] at hi
    cases hk : ks[i]? with
    | none => rw [hk] at hi; cases hi
    | some k =>
      rw [hk] at hi
      cases hi
      have hlt : i < ks.length := (List.getElem?_eq_some_iff.mp hk).1
      refine ⟨⟨eh _ _ (ea _ _ z1), by rw [zip_len hl]; exact hlt⟩, fun x H' ⟨hH, k', v', hy, hx⟩ => .inl ⟨hH, ?_⟩⟩
      have := (zip_get' hy).1
      rw [hk] at this; cases this
      subst hx
      exact kD_rep _)
end
theorem rep_kD {K : PySem.W.Frag} {F : Hp} {k : Key} {v : V} (h : Rep K F (kD k) v) : v = kV k := by
  cases k with
  | inl i => exact h
  | inr x => exact h
def putD (acc : List (Key × D)) (k : Key) (d : D) : List (Key × D) :=
  if (acc.any fun kv => decide (kv.1 = k)) = true then acc.map (fun kv => if kv.1 = k then (kv.1, d) else kv) else acc ++ [(k, d)]
def DRep (K : PySem.W.Frag) (F : Hp) : List (Key × D) → List (Key × V) → Prop
  | [], us => us = []
  | p :: acc, us => ∃ u us', us = u :: us' ∧ u.1 = p.1 ∧ Rep K F p.2 u.2 ∧ DRep K F acc us'
theorem DRep.mono {K : PySem.W.Frag} {F F' : Hp} (e : Ex F F') : ∀ {acc : List (Key × D)} {us : List (Key × V)}, DRep K F acc us → DRep K F' acc us
  | [], _, h => h
  | p :: acc, _, ⟨u, us', h1, h2, h3, h4⟩ => ⟨u, us', h1, h2, Rep.mono e _ _ h3, h4.mono e⟩
theorem DRep.length {K : PySem.W.Frag} {F : Hp} : ∀ {acc : List (Key × D)} {us : List (Key × V)}, DRep K F acc us → us.length = acc.length
  | [], _, h => by rw [show _ = [] from h]; rfl
  | p :: acc, _, ⟨u, us', h1, h2, h3, h4⟩ => by rw [h1, List.length_cons, List.length_cons, h4.length]
theorem DRep.keys {K : PySem.W.Frag} {F : Hp} : ∀ {acc : List (Key × D)} {us : List (Key × V)}, DRep K F acc us → us.map (·.1) = acc.map (·.1)
  | [], _, h => by rw [show _ = [] from h]; rfl
  | p :: acc, _, ⟨u, us', h1, h2, h3, h4⟩ => by rw [h1, List.map_cons, List.map_cons, h4.keys, h2]
theorem DRep.vals {K : PySem.W.Frag} {F : Hp} : ∀ {acc : List (Key × D)} {us : List (Key × V)}, DRep K F acc us → RepL K F (acc.map (·.2)) (us.map (·.2))
  | [], _, h => by rw [show _ = [] from h]; rfl
  | p :: acc, _, ⟨u, us', h1, h2, h3, h4⟩ => by subst h1; exact ⟨u.2, us'.map (·.2), rfl, h3, h4.vals⟩
theorem DRep.of {K : PySem.W.Frag} {F : Hp} : ∀ {ks : List Key} {ds : List D} {vs : List V}, ks.length = ds.length → RepL K F ds vs → DRep K F (ks.zip ds) (ks.zip vs)
  | [], _, _, _, _ => by rw [List.zip_nil_left, List.zip_nil_left]; rfl
  | k :: ks, [], _, h, _ => by simp at h
  | k :: ks, d :: ds, _, h, ⟨v, vs', h1, h2, h3⟩ => by subst h1; exact ⟨(k, v), ks.zip vs', rfl, rfl, h2, DRep.of (by simpa using h) h3⟩
theorem DRep.append {K : PySem.W.Frag} {F : Hp} : ∀ {acc bcc : List (Key × D)} {us ws : List (Key × V)}, DRep K F acc us → DRep K F bcc ws → DRep K F (acc ++ bcc) (us ++ ws)
  | [], _, _, _, h, h' => by rw [show _ = [] from h]; exact h'
  | p :: acc, _, _, _, ⟨u, us', h1, h2, h3, h4⟩, h' => by subst h1; exact ⟨u, us' ++ _, rfl, h2, h3, h4.append h'⟩
theorem DRep.any {K : PySem.W.Frag} {F : Hp} (k : Key) : ∀ {acc : List (Key × D)} {us : List (Key × V)}, DRep K F acc us → (us.any fun kv => decide (kv.1 = k)) = acc.any fun kv => decide (kv.1 = k)
  | [], _, h => by rw [show _ = [] from h]; rfl
  | p :: acc, _, ⟨u, us', h1, h2, h3, h4⟩ => by subst h1; rw [List.any_cons, List.any_cons, h4.any k, h2]
theorem DRep.over {K : PySem.W.Frag} {F : Hp} {k : Key} {d : D} {v : V} (hv : Rep K F d v) : ∀ {acc : List (Key × D)} {us : List (Key × V)}, DRep K F acc us → DRep K F (acc.map fun kv => if kv.1 = k then (kv.1, d) else kv) (us.map fun kv => if kv.1 = k then (kv.1, v) else kv)
  | [], _, h => by rw [show _ = [] from h]; rfl
  | p :: acc, _, ⟨u, us', h1, h2, h3, h4⟩ => by
    subst h1
    refine ⟨_, _, List.map_cons, ?_, ?_, h4.over hv⟩
    · dsimp only
      rw [h2]
      by_cases hk : p.1 = k
      · rw [if_pos hk, if_pos hk]
      · rw [if_neg hk, if_neg hk]; exact h2
    · dsimp only
      rw [h2]
      by_cases hk : p.1 = k
      · rw [if_pos hk, if_pos hk]; exact hv
      · rw [if_neg hk, if_neg hk]; exact h3
theorem DRep.put {K : PySem.W.Frag} {F : Hp} {k : Key} {d : D} {v : V} {acc : List (Key × D)} {us : List (Key × V)} (h : DRep K F acc us) (hv : Rep K F d v) : DRep K F (putD acc k d) (putK us k v) := by
  unfold putD putK
  rw [h.any k]
  by_cases hk : (acc.any fun kv => decide (kv.1 = k)) = true
  · rw [if_pos hk, if_pos hk]; exact h.over hv
  · rw [if_neg hk, if_neg hk]; exact h.append ⟨(k, v), [], rfl, rfl, hv, rfl⟩
theorem zip_maps {α β : Type} : ∀ us : List (α × β), (us.map (·.1)).zip (us.map (·.2)) = us
  | [] => rfl
  | u :: us => by rw [List.map_cons, List.map_cons, List.zip_cons_cons, zip_maps us]
def dicD (acc : List (Key × D)) : D := .dic (acc.map (·.1)) (acc.map (·.2))
theorem own_dicD {K : PySem.W.Frag} {F H : Hp} {p : Addr} {acc : List (Key × D)} {us : List (Key × V)} (h : DRep K F acc us) (hp : H p = some (.dK us)) : Own K F H p (dicD acc) := by
  refine ⟨us.map (·.2), ?_, by rw [List.length_map, List.length_map], h.vals⟩
  rw [← h.keys, zip_maps]
  exact hp
section
variable {X : Cy} {e a b c o tg kx vx : Expr} {es : List Expr} {st : Stmt} {sts rest body orelse : List Stmt} {r : Env2} {G : GD} {pos tpos p0 : Pos} {D0 : EndsD}
def DcTurn (X : Cy) (scope : Scope) (tg kx vx : Expr) (ifs : List Expr) (is : List Nat) (d : D) (acc : List (Key × D)) (r : Env2) (G : GD) (Nx : List (Key × D) → Env2 → GD → Prop) : Prop :=
  ∀ Y, BlkX X scope Y → WG Y tg d r G is fun r1 G1 => match ifs with
    | [] => ∀ Y, BlkX X scope Y → WE Y kx r1 G1 fun z r2 G2 => ∃ k, z = .sh (kD k) ∧ ∀ Y, BlkX X scope Y → WE Y vx r2 G2 fun z' r3 G3 => ∃ d' r4, fz r3 z' = some (d', r4) ∧ acc.length < LIM ∧ Nx (putD acc k d') (wipeD r4 is) G3
    | [c] => ∀ Y, BlkX X scope Y → WT Y c r1 G1 fun b r2 G2 => (b = true → ∀ Y, BlkX X scope Y → WE Y kx r2 G2 fun z r3 G3 => ∃ k, z = .sh (kD k) ∧ ∀ Y, BlkX X scope Y → WE Y vx r3 G3 fun z' r4 G4 => ∃ d' r5, fz r4 z' = some (d', r5) ∧ acc.length < LIM ∧ Nx (putD acc k d') (wipeD r5 is) G4) ∧ (b = false → Nx acc (wipeD r2 is) G2)
    | _ => False
theorem dc_turn {scope : Scope}  {ifs : List Expr} {is : List Nat} {d : D} {acc : List (Key × D)} {Nx : List (Key × D) → Env2 → GD → Prop} {F0 T F H : Hp} {σ : L2.St} {v : V} {L : Addr} {us : List (Key × V)}
    (lk : Lk X F0 T) (S : Sta X.K F0 (upd T L (.dK us)) F G H r (L2.wipe σ is)) (hT : T L = none) (h0 : F0 L = none) (ha : DRep X.K F0 acc us) (rp : Rep X.K F d v) (h : DcTurn X scope tg kx vx ifs is d acc r G Nx) {Pn : Hp → Prop}
    (hN : ∀ acc' us' r' G' F' H', Nx acc' r' G' → DRep X.K F' acc' us' → Sta X.K F0 (upd T L (.dK us')) F' G' H' r' (L2.wipe σ is) → Pn H') :
    blkG X scope tg v (L2.wipe σ is) H fun σ2 H2 => L2.wipe σ2 is = L2.wipe σ is ∧ blkT X scope ifs σ2 H2 fun b H3 =>
      if b = true then blkE X scope kx σ2 H3 fun y H4 => blkE X scope vx σ2 H4 fun z H5 => ∃ kvs k, y = kV k ∧ H5 L = some (.dK kvs) ∧ kvs.length < sizeLine ∧ Pn (upd H5 L (.dK (putK kvs k z))) else Pn H3 := by
  have wi : L2.wipe (L2.wipe σ is) is = L2.wipe σ is := by
    have aux : ∀ (js : List Nat) (τ : L2.St), (∀ j ∈ js, ∀ x, τ[j]? = some x → x = none) → L2.wipe τ js = τ := by
      intro js
      induction js with
      | nil => intro τ _; rfl
      | cons j js ih =>
        intro τ hτ
        unfold L2.wipe
        rw [ih τ fun k hk => hτ k (List.mem_cons_of_mem _ hk)]
        refine List.ext_getElem? fun k => ?_
        by_cases hjk : j = k
        · subst hjk
          by_cases hl : j < τ.length
          · rw [List.getElem?_set_self hl]
            cases e : τ[j]? with
            | none => rw [List.getElem?_eq_none_iff] at e; omega
            | some x => rw [hτ j List.mem_cons_self x e]
          · rw [List.getElem?_eq_none (by rw [List.length_set]; omega), List.getElem?_eq_none (by omega)]
        · rw [List.getElem?_set_ne hjk]
    refine aux is _ fun j hj x hx => ?_
    cases x with
    | none => rfl
    | some y => exact absurd hj (wipe_some hx).2
  have fin : ∀ (F2 : Hp) (G2 : GD) (H4 : Hp) (r2 r3 : Env2) (σ2 : L2.St) (z : Res) (y : V) (k : Key) (d' : D), L2.wipe σ2 is = L2.wipe σ is → Sta X.K F0 (upd T L (.dK us)) F2 G2 H4 r2 σ2 → ResOk X.K (upd T L (.dK us)) F2 G2 H4 r2 σ2 z y → fz r2 z = some (d', r3) → acc.length < LIM → Nx (putD acc k d') (wipeD r3 is) G2 →
      ∃ kvs k', kV k = kV k' ∧ H4 L = some (.dK kvs) ∧ kvs.length < sizeLine ∧ Pn (upd H4 L (.dK (putK kvs k' y))) := fun F2 G2 H4 r2 r3 σ2 z y k d' hw S2 k2 q1 q2 q3 => by
    obtain ⟨F3, e3, S3, rp3⟩ := S2.fz k2 q1
    have hL : H4 L = some (.dK us) := S3.bas.tk L _ upd_same
    have ha3 : DRep X.K F3 acc us := DRep.mono S3.bas.ff ha
    have fL : F3 L = none := by
      cases e : F3 L with
      | none => rfl
      | some u =>
        rcases S3.bas.ft L u e with zz | zz
        · rw [h0] at zz; cases zz
        · rw [upd_same] at zz; cases zz
    have gL : G2 L = none := by
      cases e : G2 L with
      | none => rfl
      | some u => have zz := S3.bas.gt L u e; rw [upd_same] at zz; cases zz
    refine ⟨us, k, rfl, hL, by rw [ha3.length]; exact lim_lt q2, hN _ (putK us k y) _ G2 F3 _ q3 (ha3.put rp3) ?_⟩
    have Sw := S3.wipe is hw
    refine ⟨⟨Sw.bas.ff, fun q u hq => ?_, fun q u hq => ?_, fun q u hq => ?_, Sw.bas.fg, fun q u hq => ?_, fun q u hq => ?_⟩, Sw.len, fun i s hs => ?_, Sw.ap⟩
    · have hqL : q ≠ L := fun zz => by subst zz; rw [fL] at hq; cases hq
      have := Sw.bas.ft q u hq
      rw [upd_ne hqL] at this ⊢
      exact this
    · have hqL : q ≠ L := fun zz => by subst zz; rw [fL] at hq; cases hq
      rw [upd_ne hqL]; exact Sw.bas.fh q u hq
    · have hqL : q ≠ L := fun zz => by subst zz; rw [gL] at hq; cases hq
      exact (Sw.bas.gh q u hq).mono (Ex.refl _) fun o ho => by rw [upd_ne hqL]; exact ho
    · have hqL : q ≠ L := fun zz => by subst zz; rw [gL] at hq; cases hq
      have := Sw.bas.gt q u hq
      rw [upd_ne hqL] at this ⊢
      exact this
    · by_cases hqL : q = L
      · subst hqL; rw [upd_same] at hq ⊢; exact hq
      · rw [upd_ne hqL] at hq ⊢
        exact Sw.bas.tk q u (by rw [upd_ne hqL]; exact hq)
    · have hh := Sw.sl i s hs
      cases s with
      | no => trivial
      | sh d => exact hh
      | own d =>
        obtain ⟨p, k1, k3, k4, k5, k6⟩ := hh
        have hpL : p ≠ L := fun zz => by subst zz; rw [upd_same] at k6; cases k6
        rw [upd_ne hpL] at k6
        exact ⟨p, k1, k3.mono (Ex.refl _) (fun u hu => by rw [upd_ne hpL]; exact hu), k4, k5, by rw [upd_ne hpL]; exact k6⟩
  intro Y hY pins s u I rv
  have lk' : Lk X F0 (upd T L (.dK us)) := lk.ext (Ex.new hT)
  have hYK : Y.K = X.K := hY.k
  have h' := h Y hY
  unfold WG at h'
  rw [hYK] at h'
  refine wpAny_mono (h' F0 (upd T L (.dK us)) F H (L2.wipe σ is) v (hY.lk lk') S rp pins s u I rv) (fun _ s' ⟨σ', H', I', hw, r', G', F', e', S', q⟩ => ⟨σ', H', I', hw.trans wi, ?_⟩) fun _ _ x => x
  have hw' := hw.trans wi
  match ifs, q with
  | [], q =>
    unfold blkT
    dsimp only
    rw [if_pos rfl]
    intro Z hZ
    have q' := q Z hZ
    unfold WE at q'
    rw [hZ.k] at q'
    refine (q' F0 _ F' H' σ' (hZ.lk lk') S').mono fun y H4 ⟨z, r2, G2, F2, e2, S2, k2, k, hz, m1⟩ => ?_
    subst hz
    cases rep_kD (K := X.K) k2
    intro W hW
    have q2 := m1 W hW
    unfold WE at q2
    rw [hW.k] at q2
    exact (q2 F0 _ F2 H4 σ' (hW.lk lk') S2).mono fun u H5 ⟨z', r3, G3, F3, e3, S3, k3, d', r4, n1, n2, n3⟩ => fin F3 G3 H5 r3 r4 σ' z' u k d' hw' S3 k3 n1 n2 n3
  | [c], q =>
    intro Z hZ
    have q' := q Z hZ
    unfold WT at q'
    rw [hZ.k] at q'
    refine (q' F0 _ F' H' σ' (hZ.lk lk') S').mono fun b H3 ⟨r2, G2, F2, e2, S2, m1, m2⟩ => ?_
    cases b with
    | true =>
      rw [if_pos rfl]
      intro W hW
      have q2 := m1 rfl W hW
      unfold WE at q2
      rw [hW.k] at q2
      refine (q2 F0 _ F2 H3 σ' (hW.lk lk') S2).mono fun y H4 ⟨z, r3, G3, F3, e3, S3, k3, k, hz, n1⟩ => ?_
      subst hz
      cases rep_kD (K := X.K) k3
      intro V hV
      have q3 := n1 V hV
      unfold WE at q3
      rw [hV.k] at q3
      exact (q3 F0 _ F3 H4 σ' (hV.lk lk') S3).mono fun u H5 ⟨z', r4, G4, F4, e4, S4, k4, d', r5, p1, p2, p3⟩ => fin F4 G4 H5 r4 r5 σ' z' u k d' hw' S4 k4 p1 p2 p3
    | false =>
      rw [if_neg Bool.false_ne_true]
      exact hN acc us _ G2 F2 H3 (m2 rfl) (DRep.mono S2.bas.ff ha) (S2.wipe is hw')
  | _ :: _ :: _, q => exact q.elim
/-- what a comprehension's loop keeps -/
def DcInv (K : PySem.W.Frag) (T Fa : Hp) (τ : L2.St) (L : Addr) (I : List (Key × D) → Env2 → GD → Prop) : Hp → Prop := fun H' =>
  ∃ acc us r' G' F', DRep K F' acc us ∧ Sta K Fa (upd T L (.dK us)) F' G' H' r' τ ∧ I acc r' G'
theorem dc_begin {K : PySem.W.Frag} {F0 T F H : Hp} {σ : L2.St} {is : List Nat} {L : Addr} {I : List (Key × D) → Env2 → GD → Prop} (S : Sta K F0 T F G H r σ) (hL : H L = none) (h0 : I [] (wipeD r is) G) : DcInv K T F (L2.wipe σ is) L I (upd H L (.dK [])) := by
  obtain ⟨f1, f2, f3⟩ := S.bas.freshF hL
  have Sb := (S.newH (o := .dK []) hL).base.wipe (σ := σ) is rfl
  refine ⟨[], [], _, G, F, rfl, ⟨⟨Sb.bas.ff, fun q u hq => .inl hq, Sb.bas.fh, Sb.bas.gh, Sb.bas.fg, fun q u hq => ?_, fun q u hq => ?_⟩, Sb.len, fun i s hs => ?_, Sb.ap⟩, h0⟩
  · have hq' : q ≠ L := fun z => by subst z; rw [f2] at hq; cases hq
    rw [upd_ne hq']; exact Sb.bas.gt q u hq
  · by_cases hq' : q = L
    · subst hq'; rw [upd_same] at hq ⊢; exact hq
    · rw [upd_ne hq'] at hq; exact Sb.bas.tk q u hq
  · have hh := Sb.sl i s hs
    cases s with
    | no => trivial
    | sh d => exact hh
    | own d =>
      obtain ⟨p, k1, k2, k3, k4, k5⟩ := hh
      have hp : p ≠ L := fun z => by
        subst z
        by_cases hi : i ∈ is
        · have : (L2.wipe σ is)[i]? ≠ some (some (V.ref p)) := fun z => (wipe_some z).2 hi
          exact this k1
        · have e := (wipe_some k1).1
          have hr : r[i]? = some (.own d) := by
            have aux : ∀ (js : List Nat), i ∉ js → (wipeD r js)[i]? = r[i]? := by
              intro js
              induction js with
              | nil => intro _; rfl
              | cons j js ih =>
                intro hj
                unfold wipeD
                rw [List.getElem?_set_ne (fun z => hj (by rw [z]; exact List.mem_cons_self)), ih (fun z => hj (List.mem_cons_of_mem _ z))]
            rw [aux is hi] at hs
            exact hs
          exact S.freshR hL i d hr e
      exact ⟨p, k1, k2, k3, k4, by rw [upd_ne hp]; exact k5⟩
theorem dc_end {K : PySem.W.Frag} {F0 T Fa : Hp} {Ga : GD} {Ha H' : Hp} {σ : L2.St} {is : List Nat} {L : Addr} {I : List (Key × D) → Env2 → GD → Prop} {Q : Res → Env2 → GD → Prop} (B : Bas K F0 T Fa Ga Ha) (hL : Ha L = none) (hσ : Wk r (wipeD r is)) (S0 : Sta K F0 T Fa Ga Ha r σ) (h : DcInv K T Fa (L2.wipe σ is) L I H') (he : ∀ acc r' G', I acc r' G' → Q (.fr (dicD acc)) r' G') :
    PostE K F0 T Fa σ Q (.ref L) H' := by
  obtain ⟨acc, us, r', G', F', ha, S, q⟩ := h
  obtain ⟨f1, f2, f3⟩ := B.freshF hL
  have fL : F' L = none := by
    cases e : F' L with
    | none => rfl
    | some u =>
      rcases S.bas.ft L u e with zz | zz
      · rw [f1] at zz; cases zz
      · rw [upd_same] at zz; cases zz
  have gL : G' L = none := by
    cases e : G' L with
    | none => rfl
    | some u => have zz := S.bas.gt L u e; rw [upd_same] at zz; cases zz
  have tsub : ∀ q u, T q = some u → upd T L (.dK us) q = some u := fun q u hq => by
    have hqL : q ≠ L := fun zz => by subst zz; rw [f3] at hq; cases hq
    rw [upd_ne hqL]; exact hq
  have tdown : ∀ q, upd T L (.dK us) q = none → T q = none := fun q hq => by
    cases hf : T q with
    | none => rfl
    | some u => rw [tsub q u hf] at hq; cases hq
  have slots : ∀ (i : Nat) (s : Sl), r'[i]? = some s → SlotOk K T F' G' H' s σ[i]? := fun i s hs => by
    have hh := S.sl i s hs
    cases s with
    | no => trivial
    | sh d => obtain ⟨v, k1, k2⟩ := hh; exact ⟨v, (wipe_some k1).1, k2⟩
    | own d => obtain ⟨p, k1, k2, k3, k4, k5⟩ := hh; exact ⟨p, (wipe_some k1).1, k2, k3, k4, tdown p k5⟩
  have St : Sta K F0 T F' G' H' r' σ := by
    refine ⟨⟨B.ff.trans S.bas.ff, fun q u hq => ?_, S.bas.fh, S.bas.gh, S.bas.fg, fun q u hq => tdown q (S.bas.gt q u hq), fun q u hq => S.bas.tk q u (tsub q u hq)⟩, by rw [S.len, wipe_length], slots, fun i j d e hij hi hj z => ?_⟩
    · rcases S.bas.ft q u hq with zz | zz
      · exact B.ft q u zz
      · exact .inr (tdown q zz)
    · obtain ⟨p, k1, _⟩ := S.ownS hi
      obtain ⟨p2, m1, _⟩ := S.ownS hj
      refine S.ap i j d e hij hi hj ?_
      rw [(wipe_some k1).1, (wipe_some m1).1] at z
      rw [k1, m1, z]
  refine ⟨.fr (dicD acc), r', G', F', S.bas.ff, St, ⟨L, rfl, own_dicD ha (S.bas.tk L _ upd_same), fL, gL, f3, fun i d hi z => ?_⟩, he acc r' G' q⟩
  obtain ⟨p, k1, _, _, _, k5⟩ := S.ownS hi
  have e1 := (wipe_some k1).1
  rw [e1] at z; cases z
  rw [upd_same] at k5; cases k5
/-- one step of a comprehension over items -/
theorem dc_step {scope : Scope} {ifs : List Expr} {is : List Nat} {d : D} {J : It} {ds : List D} {i : Nat} {T Fa : Hp} {H H' : Hp} {σ : L2.St} {v : V} {L : Addr} {I I' : List (Key × D) → Env2 → GD → Prop} (lk : Lk X Fa T) (hL : Fa L = none) (hT : T L = none) (hJ : ItD X.K J Fa ds) (hi : ds[i]? = some d) (h : DcInv X.K T Fa (L2.wipe σ is) L I H) (y : J.yld i H v H')
    (hs : ∀ acc r' G', I acc r' G' → DcTurn X scope tg kx vx ifs is d acc r' G' I') :
    blkG X scope tg v (L2.wipe σ is) H' fun σ2 H2 => L2.wipe σ2 is = L2.wipe σ is ∧ blkT X scope ifs σ2 H2 fun b H3 =>
      if b = true then blkE X scope kx σ2 H3 fun y H4 => blkE X scope vx σ2 H4 fun z H5 => ∃ kvs k, y = kV k ∧ H5 L = some (.dK kvs) ∧ kvs.length < sizeLine ∧ DcInv X.K T Fa (L2.wipe σ is) L I' (upd H5 L (.dK (putK kvs k z))) else DcInv X.K T Fa (L2.wipe σ is) L I' H3 := by
  obtain ⟨acc, us, r', G', F1, ha1, S1, q⟩ := h
  obtain ⟨F', ef, S, rp⟩ := hJ.item S1.bas.ff S1 hi y
  have ha := DRep.mono ef ha1
  have fL : F' L = none := by
    cases e : F' L with
    | none => rfl
    | some u =>
      rcases S.bas.ft L u e with zz | zz
      · rw [hL] at zz; cases zz
      · rw [upd_same] at zz; cases zz
  have lk' : Lk X F' T := ⟨lk.t, lk.f.trans S.bas.ff, fun a o ho => (S.bas.ft a o ho).elim (fun z => lk.ft a o z) fun z => .inr (none_of lk.t (none_of (Ex.new hT) z))⟩
  refine dc_turn lk' S.base hT fL ha rp (hs acc r' G' q) fun acc' us' r2 G2 F2 H2 q2 ha2 S2 => ?_
  refine ⟨acc', us', r2, G2, F2, ha2, ⟨⟨S.bas.ff.trans S2.bas.ff, fun q u hq => ?_, S2.bas.fh, S2.bas.gh, S2.bas.fg, S2.bas.gt, S2.bas.tk⟩, S2.len, S2.sl, S2.ap⟩, q2⟩
  rcases S2.bas.ft q u hq with zz | zz
  · rcases S.bas.ft q u zz with yy | yy
    · exact .inl yy
    · by_cases hqL : q = L
      · subst hqL; rw [fL] at zz; cases zz
      · rw [upd_ne hqL] at yy ⊢; exact .inr yy
  · exact .inr zz
theorem we_dc {scope : Scope} {ifs : List Expr} (own : List (Str × Nat)) {Q : Res → Env2 → GD → Prop} (hc : X.calm = true) (hN : X.N.Nodup) (ok : BlkOk X.N X.env.scope scope own)
    (h : WI X tg e r G fun ds r2 G1 => ∃ I : Nat → List (Key × D) → Env2 → GD → Prop, I 0 [] (wipeD r2 (own.map (·.2))) G1 ∧ (∀ (k : Nat) (d : D) (acc : List (Key × D)) (r3 : Env2) (G3 : GD), ds[k]? = some d → I k acc r3 G3 → DcTurn X scope tg kx vx ifs (own.map (·.2)) d acc r3 G3 (I (k + 1))) ∧
      ∀ acc r3 G3, I ds.length acc r3 G3 → Q (.fr (dicD acc)) r3 G3) (hs : ∀ x, foldedSetIterable e X.env x = pure x := by intro _; rfl) : WE X (.DictComp kx vx [⟨tg, e, ifs, 0⟩] scope pos) r G Q := fun F0 T F H σ lk S =>
  Run.of (pe_dc hc hN piR ok blkG_ok blkT_ok blkE_ok blkE_ok hs) (by
    refine (h F0 T F H σ lk S).mono fun J H1 ⟨ds, r2, G1, Fa, e1, Sa, hJ, I, i0, it, ie⟩ L hL => ?_
    obtain ⟨f1, f2, f3⟩ := Sa.bas.freshF hL
    refine ⟨fun i m H' => m = ds.length - i ∧ i ≤ ds.length ∧ DcInv X.K T Fa (L2.wipe σ (own.map (·.2))) L (I i) H', ⟨ds.length, by simp, Nat.zero_le _, dc_begin Sa hL i0⟩, ?_⟩
    rintro i m H' ⟨rfl, hi, hI⟩
    obtain ⟨_, _, _, _, F', _, S', _⟩ := id hI
    obtain ⟨j1, j2⟩ := hJ F' H' S'.bas.ff S'.bas.fh
    by_cases hlt : i < ds.length
    · obtain ⟨j3, _⟩ := j2 i ds[i] (List.getElem?_eq_getElem hlt)
      refine .inr ⟨j3, fun H2 => DcInv X.K T Fa (L2.wipe σ (own.map (·.2))) L (I (i + 1)) H2, fun H2 p2 => ⟨ds.length - (i + 1), by omega, rfl, hlt, p2⟩, fun x H2 y => ?_⟩
      exact dc_step (lk.base Sa.bas) f1 f3 hJ (List.getElem?_eq_getElem hlt) hI y fun acc r' G' q => it i ds[i] acc r' G' (List.getElem?_eq_getElem hlt) q
    · have e : i = ds.length := by omega
      subst e
      exact .inl ⟨j1, (dc_end Sa.bas hL (wk_wipe _ _) Sa hI fun acc r' G' q => ie acc r' G' q).ext e1⟩)
end
section
variable {X : Cy} {e a b c o tg kx vx : Expr} {es : List Expr} {st : Stmt} {sts rest body orelse : List Stmt} {r : Env2} {G : GD} {pos tpos p0 p1 p2 : Pos} {D0 : EndsD}
theorem DRep.fold {K : PySem.W.Frag} {F : Hp} : ∀ {kvs acc : List (Key × D)} {us ws : List (Key × V)}, DRep K F acc ws → DRep K F kvs us → DRep K F (kvs.foldl (fun acc kv => putD acc kv.1 kv.2) acc) (mergeK ws us)
  | [], _, _, _, h, h' => by rw [show _ = [] from h']; exact h
  | kv :: kvs, acc, _, ws, h, ⟨u, us', h1, h2, h3, h4⟩ => by
    subst h1
    have : DRep K F (putD acc kv.1 kv.2) (putK ws u.1 u.2) := by rw [h2]; exact h.put h3
    have z := DRep.fold this h4
    exact z
end
/-- a special method of a class with slots: a plain def -/
structure SpecD (P : Program) (w : World) (K : PySem.W.Frag) (mg : Str → Option Value) (base : Heap) (C : Addr) (m : Str) (k : Nat) (ps : List Str) (sp : FSp) : Prop where
  ex : ∃ (g : Addr) (fd : FuncData), PySem.W.findIn K (.ref C) m = some (some (.ref g)) ∧ PySem.W.isFn K (.ref g) = true ∧ FnOk P w K mg base (CX P w) k g fd ps (spD K sp) ∧ Binds K fd ps []
section
variable {X : Cy} {e a b c o tg kx vx : Expr} {es : List Expr} {st : Stmt} {sts rest body orelse : List Stmt} {r : Env2} {G : GD} {pos tpos apos p0 p1 p2 : Pos} {D0 : EndsD}
/-- len(x), x an instance -/
def rLenOwn (C : Addr) (sp : Sp) (E : XK) : List V → Hp → VK → Prop := fun xs H Q => ∃ a dx vs, xs = [V.ref a] ∧ SlX.Slt H a C dx vs ∧ sp [.ref a] H (fun z H' => ∃ i, z = .int i ∧ (0 ≤ i ∧ i < 2 ^ 63) ∧ Q z H') E
theorem call_lenOwn {C g : Addr} {CX : CXT} {n : Nat} {sp : Sp} {E : XK} (hs : PySem.W.findIn X.K (.ref C) "__len__" = some (some (.ref g))) (hf : PySem.W.isFn X.K (.ref g) = true) (F : FnR X.prog X.w X.K X.mg X.base CX n g sp) (hr : Room (n + 1) X.A) (hx : Passes CX X E) : CallR X (.builtin "len") (rLenOwn C sp E) := by
  intro pins s σ H xs us Q I r h
  obtain ⟨a, dx, vs, rfl, hsl, q⟩ := h
  obtain ⟨u, rfl, ru⟩ := r.one
  cases (show u = Value.ref a from ru)
  obtain ⟨sl, od, _, J, _⟩ := SlX.slt_inst I hsl
  obtain ⟨m, hF⟩ := I.fr
  refine PySem.W.len_K hF I.ok.mod.kin J hs hf (wpAny_mono (wpAny_call (SlX.run_at (us := [.ref a]) (ws := [.ref a]) F hr.in1 I.env0.in1 hx I (.cons rfl .nil) q)) (fun w s' z => ?_) fun _ _ x => x)
  obtain ⟨z', H', I', rz, i, ei, hi, qz⟩ := z
  subst ei
  obtain ⟨t, e⟩ := (show ∃ t, w = Value.int i t from rz)
  cases e
  exact ⟨hi, .int i, H', I'.tok _, ⟨_, rfl⟩, qz⟩
theorem passF {X : Cx} : Passes (L2.CX X.prog X.w) X (fun _ _ _ => False) := fun _ _ _ _ _ _ _ h => by
  obtain ⟨_, _, _, _, _, _, _, _, _, _, _, _, z⟩ := h
  exact z.elim
theorem Vw.rep_ins {K : PySem.W.Frag} {F H : Hp} {C : Addr} {ds : List D} {v : V} (h : Vw K F H (.ins C ds) v) : Rep K F (.ins C ds) v := by
  rcases h with z | ⟨_, _, z⟩
  · exact z
  · exact z.elim
/-- a promise met, the open region as it was -/
theorem spD_same {K : PySem.W.Frag} {F0 T F H : Hp} {σ : L2.St} {sp : FSp} {ds : List D} {vs : List V} {Q : Res → Prop} {E : XK} (S : Sta K F0 T F G H r σ) (ha : RepL K F ds vs) (h : sp ds G (fun z G2 => G2 = G ∧ Q z) (fun _ _ => False)) :
    spD K sp vs H (fun v H' => ∃ x F', Ex F F' ∧ Sta K F0 T F' G H' r σ ∧ ResOk K T F' G H' r σ x v ∧ Q x) E :=
  ⟨F, G, ds, _, _, S.bas.fh, S.bas.gh, S.bas.fg, ha, h, fun x G' v H' F' ⟨e1, hp⟩ B rt => by
    subst e1
    exact ⟨x, F', B.ff, S.after B, ResOk.after S B rt, hp⟩, fun _ _ _ _ _ _ z => z.elim⟩
theorem c_lenI {C : Addr} {k j : Nat} {ps : List Str} {sp : FSp} {ds : List D} {Q : Res → Prop} (M : SpecD X.prog X.w X.K X.mg X.base C "__len__" k ps sp) (hr : Room j X.A) (h : ∀ G, sp [.ins C ds] G (fun z G2 => G2 = G ∧ ∃ i, z = .sh (.int i) ∧ (0 ≤ i ∧ i < 2 ^ 63) ∧ Q z) (fun _ _ => False)) (hj : k + 1 ≤ j := by omega) : CallW1 X (.builtin "len") (.ins C ds) Q := fun F0 T F G H r σ v S hv => by
  obtain ⟨g, fd, h1, h2, h3, h4⟩ := M.ex
  have rp := hv.rep_ins
  obtain ⟨ad, dx, vs, rfl, z1, z2⟩ := hv.ins S.bas.fh
  refine ⟨_, call_lenOwn (E := fun _ _ _ => False) h1 h2 (fnr h3 h4) (hr.mono hj) passF, ad, dx, vs.map some, rfl, z1, ?_⟩
  obtain ⟨F1, G1, ds1, post, px, k1, k2, k3, k4, k5, k6, k7⟩ := spD_same (E := fun _ _ _ => False) S (.one rp) (h G)
  refine ⟨F1, G1, ds1, post, px, k1, k2, k3, k4, k5, fun x G' v' H' F' hp B rt => ?_, k7⟩
  obtain ⟨x', F'', q1, q2, q3, q4⟩ := k6 x G' v' H' F' hp B rt
  obtain ⟨i, rfl, hi, hq⟩ := q4
  exact ⟨i, q3, hi, .sh (.int i), F'', q1, q2, q3, hq⟩
end
theorem lt_ {i n : Nat} (h : Nat.ble (i + 1) n = true) : i < n := Nat.le_of_ble_eq_true h
/-- what builtin names stand free -/
structure Bn (mg : Str → Option Value) : Prop where
  int : mg "int" = none
  len : mg "len" = none
  list : mg "list" = none
  range : mg "range" = none
  sorted : mg "sorted" = none
  tuple : mg "tuple" = none
  dict : mg "dict" = none
  isinstance : mg "isinstance" = none
  bool : mg "bool" = none
  str : mg "str" = none
  enumerate : mg "enumerate" = none
  reversed : mg "reversed" = none
  abs : mg "abs" = none
  min : mg "min" = none
  max : mg "max" = none
  sum : mg "sum" = none
  zip : mg "zip" = none
  set : mg "set" = none
  all : mg "all" = none
  divmod : mg "divmod" = none
section
variable {X : Cy} {r : Env2} {G : GD} {pos px py pz : Pos}
theorem wg_pair (i j : Nat) {x y : Str} {kt : Nat} {d1 d2 : D} {is : List Nat} {Q : Env2 → GD → Prop} (hc : X.calm = true) (nd : X.N.Nodup) (hi : X.N[i]? = some x) (hj : X.N[j]? = some y) (hx : L2.Loc X.env.scope x) (hy : L2.Loc X.env.scope y) (mi : i ∈ is) (mj : j ∈ is) (li : i < r.length) (lj : j < r.length)
    (q : Q ((r.set i (.sh d1)).set j (.sh d2)) G) (hfx : X.fn x = true ∨ X.env.scope.names.lookup x = some .local := by first | exact .inl rfl | exact .inr rfl | assumption) (hfy : X.fn y = true ∨ X.env.scope.names.lookup y = some .local := by first | exact .inl rfl | exact .inr rfl | assumption)
    (hn : (assignEach [.Name x px, .Name y py] X.env).length = 2 := by rfl) (hf : (assignEach [.Name x px, .Name y py] X.env).findIdx? (·.1) = none := by rfl) : WG X (.Tuple [.Name x px, .Name y py] kt pos) (.tup [d1, d2]) r G is Q :=
  wg_tup [i, j] hc (.cons (pg_name nd hi hx hfx) (.cons (pg_name nd hj hy hfy) .nil)) (fun t ht us => by
    rcases List.mem_cons.mp ht with rfl | ht
    · rfl
    · cases List.mem_singleton.mp ht; rfl) (fun k hk => by
    rcases List.mem_cons.mp hk with rfl | hk
    · exact mi
    · cases List.mem_singleton.mp hk; exact mj) rfl (fun k hk => by
    rcases List.mem_cons.mp hk with rfl | hk
    · exact li
    · cases List.mem_singleton.mp hk; exact lj) q hn hf
theorem wg_trip (i j l : Nat) {x y z : Str} {kt : Nat} {d1 d2 d3 : D} {is : List Nat} {Q : Env2 → GD → Prop} (hc : X.calm = true) (nd : X.N.Nodup) (hi : X.N[i]? = some x) (hj : X.N[j]? = some y) (hk : X.N[l]? = some z) (hx : L2.Loc X.env.scope x) (hy : L2.Loc X.env.scope y) (hz : L2.Loc X.env.scope z) (mi : i ∈ is) (mj : j ∈ is) (ml : l ∈ is) (li : i < r.length) (lj : j < r.length) (ll : l < r.length)
    (q : Q (((r.set i (.sh d1)).set j (.sh d2)).set l (.sh d3)) G) (hfx : X.fn x = true ∨ X.env.scope.names.lookup x = some .local := by first | exact .inl rfl | exact .inr rfl | assumption) (hfy : X.fn y = true ∨ X.env.scope.names.lookup y = some .local := by first | exact .inl rfl | exact .inr rfl | assumption) (hfz : X.fn z = true ∨ X.env.scope.names.lookup z = some .local := by first | exact .inl rfl | exact .inr rfl | assumption)
    (hn : (assignEach [.Name x px, .Name y py, .Name z pz] X.env).length = 3 := by rfl) (hf : (assignEach [.Name x px, .Name y py, .Name z pz] X.env).findIdx? (·.1) = none := by rfl) : WG X (.Tuple [.Name x px, .Name y py, .Name z pz] kt pos) (.tup [d1, d2, d3]) r G is Q :=
  wg_tup [i, j, l] hc (.cons (pg_name nd hi hx hfx) (.cons (pg_name nd hj hy hfy) (.cons (pg_name nd hk hz hfz) .nil))) (fun t ht us => by
    rcases List.mem_cons.mp ht with rfl | ht
    · rfl
    · rcases List.mem_cons.mp ht with rfl | ht
      · rfl
      · cases List.mem_singleton.mp ht; rfl) (fun k hk => by
    rcases List.mem_cons.mp hk with rfl | hk
    · exact mi
    · rcases List.mem_cons.mp hk with rfl | hk
      · exact mj
      · cases List.mem_singleton.mp hk; exact ml) rfl (fun k hk => by
    rcases List.mem_cons.mp hk with rfl | hk
    · exact li
    · rcases List.mem_cons.mp hk with rfl | hk
      · exact lj
      · cases List.mem_singleton.mp hk; exact ll) q hn hf
end
section
variable {X : Cy} {e a b c o tg kx vx : Expr} {es : List Expr} {st : Stmt} {sts rest body orelse : List Stmt} {r : Env2} {G : GD} {pos tpos apos cpos p0 p1 p2 : Pos} {D0 : EndsD}
theorem call_lenR : CallR X (.builtin "len") (fun xs H Q => ∃ a kvs, xs = [V.ref a] ∧ Rd H a (.dK kvs) ∧ Q (.int (kvs.length : Nat)) H) := fun pins s σ H xs us Q I rv ⟨a, kvs, ex, hd, q⟩ => by
  subst ex
  obtain ⟨u, rfl, ru⟩ := rv.one
  cases (show u = Value.ref a from ru)
  exact d_len I hd fun t s' I' => ⟨.int (kvs.length : Nat), H, I', ⟨t, rfl⟩, q⟩
theorem c_lenD {Q : Res → Prop} {acc : List (Key × D)} (q : Q (.sh (.int (acc.length : Nat)))) : CallW1 X (.builtin "len") (dicD acc) Q := fun F0 T F G H r σ v S h => by
  obtain ⟨p, vs, rfl, k1, k2, k3⟩ := h.dic S.bas.fh
  have e : ((acc.map (·.1)).zip vs).length = acc.length := by
    rw [List.length_zip, List.length_map, k3.length, List.length_map, Nat.min_self]
  refine ⟨_, call_lenR, p, _, rfl, k1, .sh (.int (acc.length : Nat)), F, Ex.refl _, S, ?_, q⟩
  show V.int _ = V.int _
  rw [e]
/-- a, b = e, e a pair -/
theorem ws_unp2 (i j : Nat) {x y : Str} {px py tpos : Pos} {k : Nat} (hc : X.calm = true) (nd : X.N.Nodup) (hi : X.N[i]? = some x) (hj : X.N[j]? = some y) (hx : L2.Loc X.env.scope x) (hy : L2.Loc X.env.scope y)
    (h : WE X e r G fun z r1 G1 => ∃ d1 d2 r2, fz r1 z = some (.tup [d1, d2], r2) ∧ i < r2.length ∧ j < r2.length ∧ D0.nx ((r2.set i (.sh d1)).set j (.sh d2)) G1)
    (hfx : X.fn x = true ∨ X.env.scope.names.lookup x = some .local := by first | exact .inl rfl | exact .inr rfl | assumption) (hfy : X.fn y = true ∨ X.env.scope.names.lookup y = some .local := by first | exact .inl rfl | exact .inr rfl | assumption)
    (hn : (assignEach [.Name x px, .Name y py] X.env).length = 2 := by rfl) (hf : (assignEach [.Name x px, .Name y py] X.env).findIdx? (·.1) = none := by rfl)
    (hs : swapsWithSole [.Tuple [.Name x px, .Name y py] k tpos] e pos.line X.env = pure false := by rfl) (hw : swappedStores [.Tuple [.Name x px, .Name y py] k tpos] e X.env = pure none := by rfl)
    (h1 : (assignEach [.Tuple [.Name x px, .Name y py] k tpos] X.env).map (·.2) = [assign (.Tuple [.Name x px, .Name y py] k tpos) X.env] := by rfl) : WS X (.Assign [.Tuple [.Name x px, .Name y py] k tpos] e pos) r G D0 :=
  ws_unpack [i, j] hc (.cons (pg_name nd hi hx hfx) (.cons (pg_name nd hj hy hfy) .nil)) (fun t ht us => by
    rcases List.mem_cons.mp ht with rfl | ht
    · rfl
    · cases List.mem_singleton.mp ht; rfl) (h.mono fun z r1 G1 ⟨d1, d2, r2, q1, q2, q3, q4⟩ => ⟨[d1, d2], r2, q1, rfl, fun k hk => by
      rcases List.mem_cons.mp hk with rfl | hk
      · exact q2
      · cases List.mem_singleton.mp hk; exact q3, q4⟩) hn hf hs hw h1
end
theorem ne_of_G {G : GD} {a b : Addr} {d : D} (h : G a = some d) (h' : G b = none) : a ≠ b := fun z => by subst z; rw [h] at h'; cases h'
theorem Sta.tbegin {K : PySem.W.Frag} {F0 T F : Hp} {G : GD} {H : Hp} {r : Env2} {σ : L2.St} (S : Sta K F0 T F G H r σ) {L : Addr} (hL : H L = none) (o : HO) (h0 : F0 L = none) : Sta K F0 (upd T L o) F G (upd H L o) r σ := by
  obtain ⟨f1, f2, f3⟩ := S.bas.freshF hL
  have Sb := S.newH (o := o) hL
  refine ⟨⟨Sb.bas.ff, fun q u hq => ?_, Sb.bas.fh, Sb.bas.gh, Sb.bas.fg, fun q u hq => ?_, fun q u hq => ?_⟩, Sb.len, fun i s hs => ?_, Sb.ap⟩
  · rw [upd_ne (ne_of_none hq f1)]; exact Sb.bas.ft q u hq
  · rw [upd_ne (ne_of_G hq f2)]; exact Sb.bas.gt q u hq
  · by_cases hq' : q = L
    · subst hq'; rw [upd_same] at hq ⊢; exact hq
    · rw [upd_ne hq'] at hq; exact Sb.bas.tk q u hq
  · have hh := Sb.sl i s hs
    cases s with
    | no => trivial
    | sh d => exact hh
    | own d =>
      obtain ⟨p, k1, k2, k3, k4, k5⟩ := hh
      have hp : p ≠ L := fun z => by subst z; exact S.freshR hL i d hs k1
      exact ⟨p, k1, k2, k3, k4, by rw [upd_ne hp]; exact k5⟩
theorem Sta.tF {K : PySem.W.Frag} {F0 T F : Hp} {G : GD} {H : Hp} {r : Env2} {σ : L2.St} {L : Addr} {o : HO} (S : Sta K F0 (upd T L o) F G H r σ) (h0 : F0 L = none) : F L = none ∧ G L = none ∧ H L = some o := by
  refine ⟨?_, ?_, S.bas.tk L o upd_same⟩
  · cases e : F L with
    | none => rfl
    | some u =>
      rcases S.bas.ft L u e with z | z
      · rw [h0] at z; cases z
      · rw [upd_same] at z; cases z
  · cases e : G L with
    | none => rfl
    | some u => have z := S.bas.gt L u e; rw [upd_same] at z; cases z
theorem Sta.tput {K : PySem.W.Frag} {F0 T F : Hp} {G : GD} {H : Hp} {r : Env2} {σ : L2.St} {L : Addr} {o : HO} (S : Sta K F0 (upd T L o) F G H r σ) (h0 : F0 L = none) (o' : HO) : Sta K F0 (upd T L o') F G (upd H L o') r σ := by
  obtain ⟨fL, gL, _⟩ := S.tF h0
  refine ⟨⟨S.bas.ff, fun q u hq => ?_, fun q u hq => ?_, fun q u hq => ?_, S.bas.fg, fun q u hq => ?_, fun q u hq => ?_⟩, S.len, fun i s hs => ?_, S.ap⟩
  · have n := ne_of_none hq fL
    have := S.bas.ft q u hq
    rw [upd_ne n] at this ⊢
    exact this
  · rw [upd_ne (ne_of_none hq fL)]; exact S.bas.fh q u hq
  · exact (S.bas.gh q u hq).mono (Ex.refl _) fun o ho => by rw [upd_ne (ne_of_G hq gL)]; exact ho
  · have n := ne_of_G hq gL
    have := S.bas.gt q u hq
    rw [upd_ne n] at this ⊢
    exact this
  · by_cases hqL : q = L
    · subst hqL; rw [upd_same] at hq ⊢; exact hq
    · rw [upd_ne hqL] at hq ⊢
      exact S.bas.tk q u (by rw [upd_ne hqL]; exact hq)
  · have hh := S.sl i s hs
    cases s with
    | no => trivial
    | sh d => exact hh
    | own d =>
      obtain ⟨p, k1, k3, k4, k5, k6⟩ := hh
      have hpL : p ≠ L := fun zz => by subst zz; rw [upd_same] at k6; cases k6
      rw [upd_ne hpL] at k6
      exact ⟨p, k1, k3.mono (Ex.refl _) (fun u hu => by rw [upd_ne hpL]; exact hu), k4, k5, by rw [upd_ne hpL]; exact k6⟩
theorem Sta.tend {K : PySem.W.Frag} {F0 T F : Hp} {G : GD} {H : Hp} {r : Env2} {σ : L2.St} {L : Addr} {o : HO} (S : Sta K F0 (upd T L o) F G H r σ) (h0 : F0 L = none) (hT : T L = none) : Sta K F0 T F G H r σ ∧ ∀ (i : Nat) (e : D), r[i]? = some (.own e) → σ[i]? ≠ some (some (.ref L)) := by
  have tsub : ∀ q u, T q = some u → upd T L o q = some u := fun q u hq => by rw [upd_ne (ne_of_none hq hT)]; exact hq
  have tdown : ∀ q, upd T L o q = none → T q = none := fun q hq => by
    cases hf : T q with
    | none => rfl
    | some u => rw [tsub q u hf] at hq; cases hq
  refine ⟨⟨⟨S.bas.ff, fun q u hq => ?_, S.bas.fh, S.bas.gh, S.bas.fg, fun q u hq => tdown q (S.bas.gt q u hq), fun q u hq => S.bas.tk q u (tsub q u hq)⟩, S.len, fun i s hs => ?_, S.ap⟩, fun i e he z => ?_⟩
  · exact (S.bas.ft q u hq).imp id (tdown q)
  · have hh := S.sl i s hs
    cases s with
    | no => trivial
    | sh d => exact hh
    | own d => obtain ⟨p, k1, k2, k3, k4, k5⟩ := hh; exact ⟨p, k1, k2, k3, k4, tdown p k5⟩
  · obtain ⟨p, k1, _, _, _, k5⟩ := S.ownS he
    rw [z] at k1; cases k1
    rw [upd_same] at k5; cases k5
/-- an exception: the number of its class, its values by name -/
structure Xm where
  n : Nat
  fs : List (Str × D)
inductive Out (α : Type) where
  | ok (a : α) | ex (x : Xm) | no
namespace Out
variable {α β σ ρ : Type}
def sat (m : Out α) (Q : α → Prop) (E : Xm → Prop) : Prop := match m with
  | .ok a => Q a
  | .ex x => E x
  | .no => False
def bind (m : Out α) (f : α → Out β) : Out β := match m with
  | .ok a => f a
  | .ex x => .ex x
  | .no => .no
/-- no exception is let out -/
def nox (m : Out α) : Out α := match m with
  | .ok a => .ok a
  | _ => .no
@[irreducible] def guard (p : Prop) [Decidable p] : Out Unit := if p then .ok () else .no
def get (o : Option α) : Out α := match o with
  | some a => .ok a
  | none => .no
theorem sat.imp {m : Out α} {Q Q' : α → Prop} {E E' : Xm → Prop} (h : m.sat Q E) (k : ∀ a, Q a → Q' a) (e : ∀ x, E x → E' x) : m.sat Q' E' := by
  cases m with
  | ok a => exact k a h
  | ex x => exact e x h
  | no => exact h
theorem sb {m : Out α} {f : α → Out β} {Q : β → Prop} {E : Xm → Prop} (h : (m.bind f).sat Q E) : m.sat (fun a => (f a).sat Q E) E := by
  cases m with
  | ok a => exact h
  | ex x => exact h
  | no => exact h
theorem nx {m : Out α} {Q : α → Prop} {E E' : Xm → Prop} (h : m.nox.sat Q E) : m.sat Q E' := by
  cases m with
  | ok a => exact h
  | ex x => exact h.elim
  | no => exact h
theorem gd {p : Prop} [Decidable p] {f : Unit → Out β} {Q : β → Prop} {E : Xm → Prop} (h : ((guard p).bind f).sat Q E) : p ∧ (f ()).sat Q E := by
  by_cases hp : p
  · unfold guard at h; rw [if_pos hp] at h; exact ⟨hp, h⟩
  · unfold guard at h; rw [if_neg hp] at h; exact h.elim
theorem gt {o : Option α} {f : α → Out β} {Q : β → Prop} {E : Xm → Prop} (h : ((get o).bind f).sat Q E) : ∃ a, o = some a ∧ (f a).sat Q E := by
  cases o with
  | none => exact h.elim
  | some a => exact ⟨a, rfl, h⟩
theorem iteb {c : Bool} {a b : Out α} {Q : α → Prop} {E : Xm → Prop} (h : (if c = true then a else b).sat Q E) : (c = true → a.sat Q E) ∧ (c = false → b.sat Q E) :=
  ⟨fun hc => by rw [if_pos hc] at h; exact h, fun hc => by rw [if_neg (by rw [hc]; exact Bool.false_ne_true)] at h; exact h⟩
@[simp] theorem bind_ok (a : α) (f : α → Out β) : (Out.ok a).bind f = f a := rfl
@[simp] theorem bind_ex (x : Xm) (f : α → Out β) : (Out.ex x : Out α).bind f = .ex x := rfl
@[simp] theorem bind_no (f : α → Out β) : (Out.no : Out α).bind f = .no := rfl
@[simp] theorem nox_ok (a : α) : (Out.ok a).nox = .ok a := rfl
@[simp] theorem get_some (a : α) : Out.get (some a) = .ok a := rfl
theorem guard_pos {p : Prop} [Decidable p] (h : p) : guard p = .ok () := by unfold guard; exact if_pos h
/-- a loop without a return -/
def fold (f : σ → α → Out σ) : List α → σ → Out σ
  | [], s => .ok s
  | x :: xs, s => (f s x).bind (fold f xs)
/-- how a block with a return ends -/
inductive Rt (σ ρ : Type) where
  | nx (s : σ) | rt (v : ρ)
/-- a loop with a return -/
def loop (f : σ → α → Out (Rt σ ρ)) : List α → σ → Out (Rt σ ρ)
  | [], s => .ok (.nx s)
  | x :: xs, s => (f s x).bind fun t => match t with
    | .nx s' => loop f xs s'
    | .rt v => .ok (.rt v)
/-- .. with a state -/
def compS (f : σ → α → Out (Option β × σ)) : List α → List β → σ → Out (List β × σ)
  | [], acc, s => .ok (acc, s)
  | x :: xs, acc, s => (f s x).bind fun p => compS f xs (match p.1 with
    | some y => acc ++ [y]
    | none => acc) p.2
end Out
open Out (Rt)
abbrev eI : Int → D := D.int
abbrev eB : Bool → D := D.bl
abbrev eU : Unit → D := fun _ => .non
abbrev eL {α : Type} (f : α → D) : List α → D := fun xs => .lst (xs.map f)
abbrev eT {α : Type} (f : α → D) : List α → D := fun xs => .tup (xs.map f)
abbrev eP {α β : Type} (f : α → D) (g : β → D) : α × β → D := fun p => .tup [f p.1, g p.2]
abbrev eP3 {α β γ : Type} (f : α → D) (g : β → D) (h : γ → D) : α × β × γ → D := fun p => .tup [f p.1, g p.2.1, h p.2.2]
abbrev eO {α : Type} (f : α → D) : Option α → D := fun o => match o with
  | none => .non
  | some a => f a
def eDl {κ ν : Type} (k : κ → Key) (f : ν → D) (kvs : List (κ × ν)) : List (Key × D) := kvs.map fun p => (k p.1, f p.2)
abbrev eD {κ ν : Type} (k : κ → Key) (f : ν → D) : List (κ × ν) → D := fun kvs => .dic (kvs.map fun p => k p.1) (kvs.map fun p => f p.2)
theorem eD_dicD {κ ν : Type} (k : κ → Key) (f : ν → D) (kvs : List (κ × ν)) : dicD (eDl k f kvs) = eD k f kvs := by
  unfold dicD eDl
  rw [List.map_map, List.map_map]; rfl
/-- the class of an exception of the mirrors -/
def xnOf (cx : Nat → Addr) (m : Xm) : Exn := ⟨.ref (cx m.n), m.fs⟩
/-- a def without draws -/
def FM (cx : Nat → Addr) {A R : Type} (en : A → List D) (er : R → Res) (f : A → Out R) : FSp := fun ds G post px => ∃ a : A, ds = en a ∧ (f a).sat (fun v => post (er v) G) (fun m => px (xnOf cx m) G)
section
variable {X : Cy} {e a b c o tg kx vx elt : Expr} {es ifs : List Expr} {st : Stmt} {sts rest body orelse : List Stmt} {r : Env2} {G : GD} {pos tpos apos cpos p0 : Pos} {D0 : EndsD} {α β γ σT ρ : Type}
theorem wb_env (R : Env2) (hr : r = R) (k : WB X sts R G D0) : WB X sts r G D0 := by subst hr; exact k
theorem wb_let {e : α} {f : α → Out β} {Q : β → Prop} {E : Xm → Prop} (h : ((Out.ok e).bind f).sat Q E) (R : α → Env2) (hr : r = R e) (k : ∀ x, (f x).sat Q E → WB X sts (R x) G D0) : WB X sts r G D0 := by subst hr; exact k e h
theorem WG.weak {d : D} {r' : Env2} {is : List Nat} {Q : Env2 → GD → Prop} (w : Wk r r') (h : WG X tg d r' G is Q) : WG X tg d r G is Q := fun F0 T F H σ v lk S rp => h F0 T F H σ v lk (S.weak w) rp
/-- what an end of a block with a state says -/
def AtS (env : σT → Env2) (gg : σT → GD) (Q : σT → Prop) : Env2 → GD → Prop := fun r G => ∃ s, Wk r (env s) ∧ G = gg s ∧ Q s
theorem drop_at {xs : List α} {k : Nat} {x : α} (hx : xs[k]? = some x) : xs.drop k = x :: xs.drop (k + 1) := by
  obtain ⟨hk, hxk⟩ := List.getElem?_eq_some_iff.mp hx
  rw [List.drop_eq_getElem_cons hk, hxk]
theorem map_at {en : α → D} {xs : List α} {k : Nat} {d : D} (hd : (xs.map en)[k]? = some d) : ∃ x, xs[k]? = some x ∧ d = en x := by
  rw [List.getElem?_map] at hd
  cases hx : xs[k]? with
  | none => rw [hx] at hd; cases hd
  | some x => rw [hx] at hd; cases hd; exact ⟨x, rfl, rfl⟩
theorem wb_forO (is : List Nat) (env : σT → Env2) (gg : σT → GD) (en : α → D) (hp : PassesOwn (model X.prog X.w) X.A X.env X.xe) (hc : X.calm = true)
    (h : WI X tg e r G fun ds r2 G1 => ∃ (xs : List α) (s0 : σT) (f : σT → α → Out σT) (kk : σT → Out β) (Q : β → Prop) (E : Xm → Prop), ds = xs.map en ∧ Wk r2 (env s0) ∧ G1 = gg s0 ∧ ((Out.fold f xs s0).bind kk).sat Q E ∧
      (∀ (s : σT) (x : α) (Q' : σT → Prop), (f s x).sat Q' E → WG X tg (en x) (env s) (gg s) is fun r4 G4 => WB X body r4 G4 { D0 with nx := AtS env gg Q', ct := AtS env gg Q', bk := fun r1 G1 => WB X rest r1 G1 D0 }) ∧
      ∀ s, (kk s).sat Q E → WB X rest (env s) (gg s) D0) (hs : ∀ x, foldedSetIterable e X.env x = pure x := by intro _; rfl) : WB X (.For tg e body [] pos :: rest) r G D0 :=
  wb_cons (ws_for (is := is) hp hc (h.mono fun ds r2 G1 ⟨xs, s0, f, kk, Q, E, hd, w0, hg, h0, hb, hn⟩ => by
    subst hd hg
    refine ⟨fun k r3 G3 => AtS env gg (fun s => ((Out.fold f (xs.drop k) s).bind kk).sat Q E) r3 G3, ⟨s0, w0, rfl, h0⟩, fun k d r3 G3 hd ⟨s, w, hg, hq⟩ => ?_, fun r3 G3 ⟨s, w, hg, hq⟩ => ?_⟩
    · subst hg
      obtain ⟨x, hx, rfl⟩ := map_at hd
      rw [drop_at hx] at hq
      have hq' : (f s x).sat (fun s' => ((Out.fold f (xs.drop (k + 1)) s').bind kk).sat Q E) E := by
        have z : (((f s x).bind (Out.fold f (xs.drop (k + 1)))).bind kk).sat Q E := hq
        cases hf : f s x with
        | ok s' => rw [hf] at z; exact z
        | ex x' => rw [hf] at z; exact z
        | no => rw [hf] at z; exact z
      exact (hb s x _ hq').weak w
    · rw [List.length_map, List.drop_length] at hq
      subst hg
      exact (hn s hq).weak w) hs)
theorem wb_forR (is : List Nat) (env : σT → Env2) (gg : σT → GD) (en : α → D) (er : ρ → Res) (gr : ρ → GD) (hp : PassesOwn (model X.prog X.w) X.A X.env X.xe) (hc : X.calm = true)
    (h : WI X tg e r G fun ds r2 G1 => ∃ (xs : List α) (s0 : σT) (f : σT → α → Out (Rt σT ρ)) (kk : Rt σT ρ → Out β) (Q : β → Prop) (E : Xm → Prop), ds = xs.map en ∧ Wk r2 (env s0) ∧ G1 = gg s0 ∧ ((Out.loop f xs s0).bind kk).sat Q E ∧
      (∀ (s : σT) (x : α) (Q' : Rt σT ρ → Prop), (f s x).sat Q' E → WG X tg (en x) (env s) (gg s) is fun r4 G4 => WB X body r4 G4 { nx := AtS env gg (fun s => Q' (.nx s)), ct := AtS env gg (fun s => Q' (.nx s)), bk := fun r1 G1 => WB X rest r1 G1 D0, rt := fun y G' => ∃ v, y = er v ∧ G' = gr v ∧ Q' (.rt v) }) ∧
      (∀ v, (kk (.rt v)).sat Q E → D0.rt (er v) (gr v)) ∧ ∀ s, (kk (.nx s)).sat Q E → WB X rest (env s) (gg s) D0) (hs : ∀ x, foldedSetIterable e X.env x = pure x := by intro _; rfl) : WB X (.For tg e body [] pos :: rest) r G D0 :=
  wb_cons (ws_for (is := is) hp hc (h.mono fun ds r2 G1 ⟨xs, s0, f, kk, Q, E, hd, w0, hg, h0, hb, hr, hn⟩ => by
    subst hd hg
    refine ⟨fun k r3 G3 => AtS env gg (fun s => ((Out.loop f (xs.drop k) s).bind kk).sat Q E) r3 G3, ⟨s0, w0, rfl, h0⟩, fun k d r3 G3 hd ⟨s, w, hg, hq⟩ => ?_, fun r3 G3 ⟨s, w, hg, hq⟩ => ?_⟩
    · subst hg
      obtain ⟨x, hx, rfl⟩ := map_at hd
      rw [drop_at hx] at hq
      have hq' : (f s x).sat (fun t => match t with
          | .nx s' => ((Out.loop f (xs.drop (k + 1)) s').bind kk).sat Q E
          | .rt v => (kk (.rt v)).sat Q E) E := by
        have z : (((f s x).bind fun t => match t with
          | .nx s' => Out.loop f (xs.drop (k + 1)) s'
          | .rt v => .ok (.rt v)).bind kk).sat Q E := hq
        cases hf : f s x with
        | ok t =>
          rw [hf] at z
          cases t with
          | nx s' => exact z
          | rt v => exact z
        | ex x' => rw [hf] at z; exact z
        | no => rw [hf] at z; exact z
      refine WG.weak w fun F0 T F H σ v lk S rp => ?_
      have q := hb s x _ hq' F0 T F H σ v lk S rp
      refine fun pins s1 u I rv => wpAny_mono (q pins s1 u I rv) (fun _ _ ⟨σ', H', I', hw, r', G', F', e', S', q'⟩ => ⟨σ', H', I', hw, r', G', F', e', S', ?_⟩) fun _ _ x => x
      refine WB.mono q' (fun _ _ z => z) (fun y G' ⟨v, hy, hG, z⟩ => ?_) (fun _ _ z => z) (fun _ _ z => z)
      subst hy hG
      exact hr v z
    · rw [List.length_map, List.drop_length] at hq
      subst hg
      exact (hn s hq).weak w) hs)
end
open Out (Rt)
section
variable {κ ν : Type} [DecidableEq κ]
def dput (kvs : List (κ × ν)) (k : κ) (v : ν) : List (κ × ν) := if (kvs.any fun p => decide (p.1 = k)) = true then kvs.map (fun p => if p.1 = k then (p.1, v) else p) else kvs ++ [(k, v)]
def dget (kvs : List (κ × ν)) (k : κ) : Option ν := (kvs.find? fun p => decide (p.1 = k)).map (·.2)
def dhas (kvs : List (κ × ν)) (k : κ) : Bool := kvs.any fun p => decide (p.1 = k)
def dmk (kvs : List (κ × ν)) : List (κ × ν) := kvs.foldl (fun acc p => dput acc p.1 p.2) []
end
/-- keys that are told apart -/
def KInj {κ : Type} (k : κ → Key) : Prop := ∀ a b, k a = k b → a = b
section
variable {κ ν : Type} [DecidableEq κ] {k : κ → Key} {f : ν → D}
theorem any_key (hk : KInj k) (kvs : List (κ × ν)) (x : κ) : ((eDl k f kvs).any fun kv => decide (kv.1 = k x)) = kvs.any fun p => decide (p.1 = x) := by
  unfold eDl
  rw [List.any_map]
  congr 1
  funext p
  show decide (k p.1 = k x) = decide (p.1 = x)
  by_cases h : p.1 = x
  · rw [h]; simp
  · have : ¬ k p.1 = k x := fun z => h (hk _ _ z)
    simp [h, this]
theorem putD_eDl (hk : KInj k) (kvs : List (κ × ν)) (x : κ) (v : ν) : putD (eDl k f kvs) (k x) (f v) = eDl k f (dput kvs x v) := by
  unfold putD dput
  rw [any_key hk]
  by_cases h : (kvs.any fun p => decide (p.1 = x)) = true
  · rw [if_pos h, if_pos h]
    unfold eDl
    rw [List.map_map, List.map_map]
    congr 1
    funext p
    show (if k p.1 = k x then (k p.1, f v) else (k p.1, f p.2)) = (k (if p.1 = x then (p.1, v) else p).1, f (if p.1 = x then (p.1, v) else p).2)
    by_cases hp : p.1 = x
    · rw [if_pos (by rw [hp]), if_pos hp]
    · rw [if_neg (fun z => hp (hk _ _ z)), if_neg hp]
  · rw [if_neg h, if_neg h]
    unfold eDl
    rw [List.map_append]; rfl
theorem dput_len (kvs : List (κ × ν)) (x : κ) (v : ν) : (dput kvs x v).length ≤ kvs.length + 1 := by
  unfold dput
  split
  · rw [List.length_map]; omega
  · rw [List.length_append]; exact Nat.le_refl _
end
/-- the value at a key -/
def valD (kvs : List (Key × D)) (k : Key) : Option D := (kvs.find? fun kv => decide (kv.1 = k)).map (·.2)
theorem valD_rep {K : PySem.W.Frag} {F : Hp} {k : Key} : ∀ {acc : List (Key × D)} {us : List (Key × V)}, DRep K F acc us → (valD acc k = none ∧ valV us k = none) ∨ ∃ d v, valD acc k = some d ∧ valV us k = some v ∧ Rep K F d v
  | [], us, h => by
    rw [show us = [] from h]; exact .inl ⟨rfl, rfl⟩
  | p :: acc, _, ⟨u, us', h1, h2, h3, h4⟩ => by
    subst h1
    unfold valD valV
    rw [List.find?_cons, List.find?_cons, h2]
    by_cases hk : p.1 = k
    · rw [decide_eq_true hk]
      exact .inr ⟨p.2, u.2, rfl, rfl, h3⟩
    · rw [decide_eq_false hk]
      exact valD_rep h4
theorem valD_eDl {κ ν : Type} [DecidableEq κ] {k : κ → Key} {f : ν → D} (hk : KInj k) (kvs : List (κ × ν)) (x : κ) : valD (eDl k f kvs) (k x) = (dget kvs x).map f := by
  unfold valD dget eDl
  induction kvs with
  | nil => rfl
  | cons p kvs ih =>
    rw [List.map_cons, List.find?_cons, List.find?_cons]
    show (match decide (k p.1 = k x) with | true => some (k p.1, f p.2) | false => _).map _ = _
    by_cases h : p.1 = x
    · rw [decide_eq_true (by rw [h]), decide_eq_true h]; rfl
    · rw [decide_eq_false (fun z => h (hk _ _ z)), decide_eq_false h]; exact ih
theorem dget_isSome {κ ν : Type} [DecidableEq κ] (kvs : List (κ × ν)) (x : κ) : (dget kvs x).isSome = dhas kvs x := by
  unfold dget dhas
  rw [Option.isSome_map]
  induction kvs with
  | nil => rfl
  | cons p kvs ih =>
    rw [List.find?_cons, List.any_cons]
    by_cases h : p.1 = x
    · rw [decide_eq_true h]; rfl
    · rw [decide_eq_false h, Bool.false_or]; exact ih
theorem zip_eDl {κ ν : Type} {k : κ → Key} {f : ν → D} (kvs : List (κ × ν)) : (kvs.map fun p => k p.1).zip (kvs.map fun p => f p.2) = eDl k f kvs := by
  unfold eDl
  induction kvs with
  | nil => rfl
  | cons p kvs ih => rw [List.map_cons, List.map_cons, List.map_cons, List.zip_cons_cons, ih]
section
variable {X : Cy} {e a b c o tg kx vx elt i : Expr} {es ifs : List Expr} {st : Stmt} {sts rest body orelse : List Stmt} {r : Env2} {G : GD} {pos tpos apos cpos p0 : Pos} {D0 : EndsD} {α β γ σT ρ : Type}
theorem vw_kD {K : PySem.W.Frag} {F H : Hp} {k : Key} {v : V} (h : Vw K F H (kD k) v) : v = kV k := by
  cases k with
  | inl n => exact h.int
  | inr x => exact h.str
/-- a dict that is looked at -/
theorem Vw.dics {K : PySem.W.Frag} {F H : Hp} (ex : Ex F H) {ks : List Key} {ds : List D} {v : V} (h : Vw K F H (.dic ks ds) v) : ∃ p us, v = .ref p ∧ Rd H p (.dK us) ∧ DRep K F (ks.zip ds) us := by
  obtain ⟨p, vs, rfl, k1, k2, k3⟩ := h.dic ex
  exact ⟨p, _, rfl, k1, DRep.of k2 k3⟩
def rDNin : R2 := fun y x H Q => ∃ a ov, x = .ref a ∧ DGet H a y ov ∧ Q (.bl (!ov.isSome)) H
theorem op_dnin {X : Cx} (hu : X.A.units + 1 < cLine) : OpR X (compareOp .NotIn) rDNin := fun pins s σ H y x u v Q I ry rx ⟨a, ov, ex, g, q⟩ => by
  subst ex
  cases (show v = Value.ref a from rx)
  exact d_notIn hu I g ry fun s' I' => ⟨.bl (!ov.isSome), H, I', rfl, q⟩
theorem val_some {K : PySem.W.Frag} {F : Hp} {k : Key} {acc : List (Key × D)} {us : List (Key × V)} (h : DRep K F acc us) : (valV us k).isSome = (valD acc k).isSome := by
  rcases valD_rep (k := k) h with ⟨h1, h2⟩ | ⟨d, v, h1, h2, _⟩
  · rw [h1, h2]; rfl
  · rw [h1, h2]; rfl
theorem opw_dnin {κ ν : Type} [DecidableEq κ] {k : κ → Key} {f : ν → D} {kvs : List (κ × ν)} {x : κ} {Q : Res → Prop} (hk : KInj k) (hu : X.A.units + 64 < cLine) (q : Q (.sh (.bl (!dhas kvs x)))) : OpW X (compareOp .NotIn) (kD (k x)) (eD k f kvs) Q := fun F0 T F G H r σ va vb S h1 h2 => by
  obtain ⟨p, us, rfl, z1, z2⟩ := h2.dics S.bas.fh
  rw [zip_eDl] at z2
  have hv : va = kV (k x) := vw_kD h1
  subst hv
  refine ⟨_, op_dnin (by omega), p, _, rfl, .inl ⟨us, k x, z1, rfl, rfl⟩, .sh (.bl (!dhas kvs x)), F, Ex.refl _, S, ?_, q⟩
  show V.bl _ = V.bl _
  rw [val_some z2, valD_eDl hk, Option.isSome_map, dget_isSome]
/-- d[k] -/
theorem we_dget {κ ν : Type} [DecidableEq κ] {k : κ → Key} {f : ν → D} (hk : KInj k) (hu : X.A.units + 64 < cLine) {Q : Res → Env2 → GD → Prop} (hs : NoSl i)
    (h : WE X o r G fun x r1 G1 => WE X i r1 G1 fun y r2 G2 => ∃ kvs key v, VwR r2 G2 x (eD k f kvs) ∧ vw r2 y = some (kD (k key)) ∧ dget kvs key = some v ∧ Q (.sh (f v)) r2 G2) : WE X (.Subscript o i pos) r G Q := fun F0 T F H σ lk S =>
  Run.of (pe_dget (by omega) peR peR hs) (by
    refine (h F0 T F H σ lk S).mono fun va H1 ⟨x, r1, G1, F1, e1, S1, k1, h1⟩ => ?_
    obtain ⟨F1', e1', S1', hv⟩ := hold S1 k1
    refine (h1 F0 T F1' H1 σ lk S1').mono fun vb H2 ⟨y, r2, G2, F2, e2, S2, k2, kvs, key, v, q1, q2, q3, q4⟩ => ?_
    obtain ⟨p, us, hp, z1, z2⟩ := (hv F2 G2 H2 r2 _ e2 S2 q1).dics S2.bas.fh
    subst hp
    rw [zip_eDl] at z2
    have hvb : vb = kV (k key) := vw_kD (S2.view k2 q2)
    subst hvb
    rcases valD_rep (k := k key) z2 with ⟨m1, m2⟩ | ⟨d, w, m1, m2, m3⟩
    · rw [valD_eDl hk, q3] at m1; cases m1
    · rw [valD_eDl hk, q3] at m1
      cases m1
      exact ⟨p, w, rfl, .inl ⟨us, k key, z1, rfl, m2.symm⟩, .sh (f v), r2, G2, F2, (e1.trans e1').trans e2, S2, m3, q4⟩)
/-- {} -/
theorem we_dnew {Q : Res → Env2 → GD → Prop} (q : Q (.fr (.dic [] [])) r G) : WE X (.Dict [] [] pos) r G Q := fun F0 T F H σ lk S =>
  Run.of pe_dnewK fun p hp => by
    obtain ⟨f1, f2, f3⟩ := S.bas.freshF hp
    exact ⟨.fr (.dic [] []), r, G, F, Ex.refl _, S.newH hp, ⟨p, rfl, ⟨[], upd_same, rfl, rfl⟩, f1, f2, f3, S.freshR hp⟩, q⟩
/-- d[k] = v, d an own slot -/
theorem ws_dput {κ ν : Type} [DecidableEq κ] {k : κ → Key} {f : ν → D} (hk : KInj k) (hu : X.A.units + 64 < cLine)
    (h : WE X e r G fun z r1 G1 => ∃ v r2, fz r1 z = some (f v, r2) ∧ WE X o r2 G1 fun x r3 G3 => ∃ j, x = .pk j ∧ WE X i r3 G3 fun y r4 G4 => ∃ kvs key, y = .sh (kD (k key)) ∧ r4[j]? = some (.own (eD k f kvs)) ∧ kvs.length < LIM ∧ D0.nx (r4.set j (.own (eD k f (dput kvs key v)))) G4)
    (hs : swapsWith e (some (.Subscript o i tpos)) pos.line X.env = pure false := by rfl) : WS X (.Assign [.Subscript o i tpos] e pos) r G D0 := fun F0 T F H σ lk S =>
  RunS.of (ps_dput (by omega) peR peR peR hs) ((h F0 T F H σ lk S).mono fun v0 H1 ⟨z, r1, G1, F1, e1, S1, k1, v, r2, q1, h1⟩ => by
    obtain ⟨F1', e1', S1', rp⟩ := S1.fz k1 q1
    refine (h1 F0 T F1' H1 σ lk S1').mono fun vo H2 ⟨x, r3, G3, F2, e2, S2, k2, j, hx, h2⟩ => ?_
    subst hx
    obtain ⟨k2a, _⟩ := k2
    refine (h2 F0 T F2 H2 σ lk S2).mono fun vi H3 ⟨y, r4, G4, F3, e3, S3, k3, kvs, key, hy, hj, hl, q⟩ => ?_
    subst hy
    have hvi : vi = kV (k key) := rep_kD k3
    subst hvi
    obtain ⟨p, m1, ⟨vs, m2, m3, m4⟩, m5, m6⟩ := S3.mut hj
    rw [k2a] at m1; cases m1
    have dr := DRep.of m3 m4
    rw [zip_eDl] at dr
    have dr2 := dr.put (k := k key) (Rep.mono (e2.trans e3) _ _ rp)
    rw [putD_eDl hk] at dr2
    have ow := own_dicD (H := upd H3 p (.dK (putK ((kvs.map fun p => k p.1).zip vs) (k key) v0))) dr2 upd_same
    rw [eD_dicD] at ow
    refine ⟨p, _, rfl, DPut.k m2 (by rw [dr.length]; unfold eDl; rw [List.length_map]; exact lim_lt hl), _, G4, F3, m6 _ _ ow, q⟩)
abbrev Blk (X : Cy) (scope : Scope) (P : Cy → Prop) : Prop := ∀ Y, BlkX X scope Y → P Y
/-- an item that is made: the state as it was -/
def Made (R : Env2) (G : GD) (is : List Nat) (d : D) : Res → Env2 → GD → Prop := fun z r2 G2 => ∃ r3, fz r2 z = some (d, r3) ∧ Wk (wipeD r3 is) R ∧ G2 = G
theorem WG.mono {d : D} {is : List Nat} {Q Q' : Env2 → GD → Prop} (h : WG X tg d r G is Q) (k : ∀ r G, Q r G → Q' r G) : WG X tg d r G is Q' := fun F0 T F H σ v lk S rp pins s u I rv =>
  wpAny_mono (h F0 T F H σ v lk S rp pins s u I rv) (fun _ _ ⟨σ', H', I', hw, r', G', F', e', S', q'⟩ => ⟨σ', H', I', hw, r', G', F', e', S', k _ _ q'⟩) fun _ _ x => x
/-- what is known of slots is forgotten behind an expression -/
theorem WE.wkp {Q : Res → Env2 → GD → Prop} (h : WE X e r G fun x r1 G1 => ∃ R, Wk r1 R ∧ (∀ i, x ≠ .pk i) ∧ Q x R G1) : WE X e r G Q := fun F0 T F H σ lk S =>
  (h F0 T F H σ lk S).mono fun v H1 ⟨x, r1, G1, F1, e1, S1, k1, R, w, hx, q⟩ => by
    refine ⟨x, R, G1, F1, e1, S1.weak w, ?_, q⟩
    cases x with
    | sh d => exact k1
    | pk i => exact absurd rfl (hx i)
    | fr d =>
      obtain ⟨p, z1, z2, z3, z4, z5, z6⟩ := k1
      refine ⟨p, z1, z2, z3, z4, z5, fun i e he => ?_⟩
      rcases w.get i _ he with z | z
      · cases z
      · exact z6 i e z
/-- what a comprehension asks of its turns -/
def LcPre (X : Cy) (scope : Scope) (tg e elt : Expr) (ifs : List Expr) (is : List Nat) (r : Env2) (G : GD) (Q : Res → Env2 → GD → Prop) : Prop :=
  WI X tg e r G fun ds r2 G1 => ∃ I : Nat → List D → Env2 → GD → Prop, I 0 [] (wipeD r2 is) G1 ∧ (∀ (k : Nat) (d : D) (acc : List D) (r3 : Env2) (G3 : GD), ds[k]? = some d → I k acc r3 G3 → LcTurn X scope tg elt ifs is d acc r3 G3 (I (k + 1))) ∧
      ∀ acc r3 G3, I ds.length acc r3 G3 → Q (.fr (.lst acc)) r3 G3
/-- .. its result known at R -/
def atR (Q : Res → Env2 → GD → Prop) : Res → Env2 → GD → Prop := fun x r1 G1 => ∃ R, Wk r1 R ∧ (∀ i, x ≠ .pk i) ∧ Q x R G1
theorem Wk.set {a b : Env2} (w : Wk a b) (s : Sl) : ∀ i, Wk (a.set i s) (b.set i s) := by
  induction w with
  | nil => intro i; exact .nil
  | no h ih => intro i; cases i with
    | zero => exact .eq h
    | succ i => exact .no (ih i)
  | eq h ih => intro i; cases i with
    | zero => exact .eq h
    | succ i => exact .eq (ih i)
theorem we_lcQ {scope : Scope} (own : List (Str × Nat)) {Q : Res → Env2 → GD → Prop} (hc : X.calm = true) (hN : X.N.Nodup) (ok : BlkOk X.N X.env.scope scope own) (h : LcPre X scope tg e elt ifs (own.map (·.2)) r G (atR Q)) (hs : ∀ x, foldedSetIterable e X.env x = pure x := by intro _; rfl) :
    WE X (.ListComp elt [⟨tg, e, ifs, 0⟩] scope pos) r G Q := WE.wkp (we_lc own hc hN ok h hs)
/-- [elt for tg in e if c] -/
theorem filter_at {p : α → Bool} {xs : List α} {k : Nat} {x : α} (hx : xs[k]? = some x) : (xs.take (k + 1)).filter p = (xs.take k).filter p ++ (if p x = true then [x] else []) := by
  rw [List.take_add_one, hx, List.filter_append]
  congr 1
  show List.filter p [x] = _
  by_cases h : p x = true <;> simp [h]
theorem lc1_pre {scope : Scope} (own : List (Str × Nat)) (R : Env2) {en : α → D} (ey : β → D) (p : α → Bool) (g : α → β) {Q : Res → Env2 → GD → Prop}
    (h : WI X tg e r G fun ds r2 G1 => ∃ xs : List α, ds = xs.map en ∧ xs.length ≤ LIM ∧ Wk (wipeD r2 (own.map (·.2))) R ∧
      (∀ x, Blk X scope fun Y => WG Y tg (en x) R G1 (own.map (·.2)) fun r3 G3 => Blk X scope fun Y => WT Y c r3 G3 fun b r4 G4 => b = p x ∧
        (p x = true → Blk X scope fun Y => WE Y elt r4 G4 (Made R G1 (own.map (·.2)) (ey (g x)))) ∧ (p x = false → Wk (wipeD r4 (own.map (·.2))) R ∧ G4 = G1)) ∧ Q (.fr (.lst (((xs.filter p).map g).map ey))) R G1) : LcPre X scope tg e elt [c] (own.map (·.2)) r G (atR Q) :=
  h.mono fun ds r2 G1 ⟨xs, hd, hl, w, hb, q⟩ => by
    subst hd
    refine ⟨fun k acc r3 G3 => Wk r3 R ∧ G3 = G1 ∧ acc = (((xs.take k).filter p).map g).map ey, ⟨w, rfl, rfl⟩, fun k d acc r3 G3 hd ⟨w3, hG, ha⟩ => ?_, fun acc r3 G3 ⟨w3, hG, ha⟩ => ?_⟩
    · subst hG ha
      obtain ⟨x, hx, rfl⟩ := map_at hd
      have hlt : k < xs.length := (List.getElem?_eq_some_iff.mp hx).1
      intro Y hY
      refine WG.mono (WG.weak w3 (hb x Y hY)) fun r4 G4 q' Y hY => (q' Y hY).mono fun b r5 G5 ⟨hbp, q1, q2⟩ => ⟨fun hb1 Y hY => ?_, fun hb0 => ?_⟩
      · have hp : p x = true := hbp ▸ hb1
        refine (q1 hp Y hY).mono fun zz r6 G6 ⟨r7, m1, m2, m3⟩ => ⟨ey (g x), r7, m1, ?_, m2, m3, ?_⟩
        · rw [List.length_map, List.length_map]
          have h1 := List.length_filter_le p (xs.take k)
          rw [List.length_take] at h1
          omega
        · rw [filter_at hx, if_pos hp, List.map_append, List.map_append]; rfl
      · have hp : p x = false := hbp ▸ hb0
        obtain ⟨w5, hG5⟩ := q2 hp
        refine ⟨w5, hG5, ?_⟩
        rw [filter_at hx, if_neg (by rw [hp]; exact Bool.false_ne_true), List.append_nil]
    · subst hG ha
      rw [List.length_map, List.take_length]
      exact ⟨R, w3, (fun i z => by cases z), q⟩
/-- [elt for tg in e if ..], by a mirror with a state -/
theorem compS_step {f : σT → α → Out (Option β × σT)} {xs : List α} {acc : List β} {s : σT} {x : α} {kk : List β × σT → Out γ} {Q : γ → Prop} {E : Xm → Prop} (h : ((Out.compS f (x :: xs) acc s).bind kk).sat Q E) :
    (f s x).sat (fun t => ((Out.compS f xs (match t.1 with | some y => acc ++ [y] | none => acc) t.2).bind kk).sat Q E) E := by
  have z : (((f s x).bind fun t => Out.compS f xs (match t.1 with | some y => acc ++ [y] | none => acc) t.2).bind kk).sat Q E := h
  cases hf : f s x with
  | ok t => rw [hf] at z; exact z
  | ex x' => rw [hf] at z; exact z
  | no => rw [hf] at z; exact z
theorem lcS_pre {scope : Scope} (own : List (Str × Nat)) (R : Env2) (gg : σT → GD) {en : α → D} (ey : β → D) {Q : Res → Env2 → GD → Prop}
    (h : WI X tg e r G fun ds r2 G1 => ∃ (xs : List α) (s0 : σT) (f : σT → α → Out (Option β × σT)) (kk : List β × σT → Out γ) (Q0 : γ → Prop) (E : Xm → Prop), ds = xs.map en ∧ xs.length ≤ LIM ∧ Wk (wipeD r2 (own.map (·.2))) R ∧ G1 = gg s0 ∧ ((Out.compS f xs [] s0).bind kk).sat Q0 E ∧
      (∀ s x (Q' : Option β × σT → Prop), (f s x).sat Q' E → Blk X scope fun Y => WG Y tg (en x) R (gg s) (own.map (·.2)) fun r3 G3 => match ifs with
        | [] => Blk X scope fun Y => WE Y elt r3 G3 fun z r4 G4 => ∃ y s' r5, fz r4 z = some (ey y, r5) ∧ Wk (wipeD r5 (own.map (·.2))) R ∧ G4 = gg s' ∧ Q' (some y, s')
        | [c] => Blk X scope fun Y => WT Y c r3 G3 fun b r4 G4 => (b = true → Blk X scope fun Y => WE Y elt r4 G4 fun z r5 G5 => ∃ y s' r6, fz r5 z = some (ey y, r6) ∧ Wk (wipeD r6 (own.map (·.2))) R ∧ G5 = gg s' ∧ Q' (some y, s')) ∧ (b = false → ∃ s', Wk (wipeD r4 (own.map (·.2))) R ∧ G4 = gg s' ∧ Q' (none, s'))
        | _ => False) ∧ ∀ ys s', (kk (ys, s')).sat Q0 E → Q (.fr (.lst (ys.map ey))) R (gg s')) : LcPre X scope tg e elt ifs (own.map (·.2)) r G (atR Q) :=
  h.mono fun ds r2 G1 ⟨xs, s0, f, kk, Q0, E, hd, hl, w, hg, h0, hb, hq⟩ => by
    subst hd hg
    refine ⟨fun k acc r3 G3 => ∃ ys s, Wk r3 R ∧ G3 = gg s ∧ acc = ys.map ey ∧ ys.length ≤ k ∧ ((Out.compS f (xs.drop k) ys s).bind kk).sat Q0 E, ⟨[], s0, w, rfl, rfl, Nat.le_refl _, h0⟩, fun k d acc r3 G3 hd ⟨ys, s, w3, hG, ha, hly, hq3⟩ => ?_, fun acc r3 G3 ⟨ys, s, w3, hG, ha, hly, hq3⟩ => ?_⟩
    · subst hG ha
      obtain ⟨x, hx, rfl⟩ := map_at hd
      have hlt : k < xs.length := (List.getElem?_eq_some_iff.mp hx).1
      rw [drop_at hx] at hq3
      have st := hb s x _ (compS_step hq3)
      have lim : (ys.map ey).length < LIM := by rw [List.length_map]; omega
      intro Y hY
      refine WG.mono (WG.weak w3 (st Y hY)) fun r4 G4 q' => ?_
      match ifs, q' with
      | [], q' =>
        refine fun Y hY => (q' Y hY).mono fun zz r5 G5 ⟨y, s', r6, m1, m2, m3, m4⟩ => ⟨ey y, r6, m1, lim, ys ++ [y], s', m2, m3, by rw [List.map_append]; rfl, by rw [List.length_append]; exact Nat.succ_le_succ hly, m4⟩
      | [c], q' =>
        refine fun Y hY => (q' Y hY).mono fun b r5 G5 ⟨q1, q2⟩ => ⟨fun hb1 Y hY => ?_, fun hb0 => ?_⟩
        · exact (q1 hb1 Y hY).mono fun zz r6 G6 ⟨y, s', r7, m1, m2, m3, m4⟩ => ⟨ey y, r7, m1, lim, ys ++ [y], s', m2, m3, by rw [List.map_append]; rfl, by rw [List.length_append]; exact Nat.succ_le_succ hly, m4⟩
        · obtain ⟨s', m2, m3, m4⟩ := q2 hb0
          exact ⟨ys, s', m2, m3, rfl, Nat.le_succ_of_le hly, m4⟩
      | _ :: _ :: _, q' => exact q'.elim
    · subst hG ha
      rw [List.length_map, List.drop_length] at hq3
      exact ⟨R, w3, (fun i z => by cases z), hq ys s hq3⟩
end
open Out (Rt)
section
variable {κ ν : Type} [DecidableEq κ]
theorem dmk_snoc (kvs : List (κ × ν)) (p : κ × ν) : dmk (kvs ++ [p]) = dput (dmk kvs) p.1 p.2 := by unfold dmk; rw [List.foldl_append]; rfl
theorem dmk_len : ∀ (kvs : List (κ × ν)), (dmk kvs).length ≤ kvs.length := by
  have key : ∀ (kvs acc : List (κ × ν)), (kvs.foldl (fun acc p => dput acc p.1 p.2) acc).length ≤ acc.length + kvs.length := by
    intro kvs
    induction kvs with
    | nil => intro acc; exact Nat.le_refl _
    | cons p kvs ih =>
      intro acc
      rw [List.foldl_cons, List.length_cons]
      have h1 := ih (dput acc p.1 p.2)
      have h2 := dput_len acc p.1 p.2
      omega
  intro kvs
  have := key kvs []
  rw [List.length_nil, Nat.zero_add] at this
  exact this
end
section
variable {X : Cy} {e a b c o tg kx vx elt i : Expr} {es ifs : List Expr} {st : Stmt} {sts rest body orelse : List Stmt} {r : Env2} {G : GD} {pos tpos apos cpos p0 : Pos} {D0 : EndsD} {α β γ σT ρ : Type}
theorem we_ifP {en : α → D} {va vb : α} {Q : Res → Env2 → GD → Prop} (h : WT X c r G fun d r1 G1 => (d = true → WE X a r1 G1 fun x r2 G2 => x = .sh (en va) ∧ r2 = r1 ∧ G2 = G1) ∧ (d = false → WE X b r1 G1 fun x r2 G2 => x = .sh (en vb) ∧ r2 = r1 ∧ G2 = G1) ∧ Q (.sh (en (if d = true then va else vb))) r1 G1) : WE X (.IfExp c a b pos) r G Q :=
  we_ifExp (h.mono fun d r1 G1 ⟨h1, h2, q⟩ => ⟨fun hd => (h1 hd).mono fun x r2 G2 ⟨m1, m2, m3⟩ => by subst m1 m2 m3; rw [if_pos hd] at q; exact q, fun hd => (h2 hd).mono fun x r2 G2 ⟨m1, m2, m3⟩ => by subst m1 m2 m3; rw [if_neg (by rw [hd]; exact Bool.false_ne_true)] at q; exact q⟩)
/-- a test as a value, joined -/
theorem we_andP {c2 : Bool} {Q : Res → Env2 → GD → Prop} (h : WE X a r G fun x r1 G1 => ∃ c1, x = .sh (.bl c1) ∧ (c1 = true → WE X (.BoolOp .And (b :: es) pos) r1 G1 fun y r2 G2 => y = .sh (.bl c2) ∧ r2 = r1 ∧ G2 = G1) ∧ Q (.sh (.bl (c1 && c2))) r1 G1) : WE X (.BoolOp .And (a :: b :: es) pos) r G Q :=
  we_and (h.mono fun x r1 G1 ⟨c1, hx, h1, q⟩ => ⟨c1, hx, fun hc => (h1 hc).mono fun y r2 G2 ⟨m1, m2, m3⟩ => by subst m1 m2 m3; rw [hc, Bool.true_and] at q; exact q, fun hc => by rw [hc, Bool.false_and] at q; exact q⟩)
/-- the same of tests -/
theorem WW.monoT {Q Q' : Bool → Env2 → GD → Prop} (h : WW X e r G Q) (k : ∀ x r' G', Q x r' G' → Q' x r' G') : WW X e r G Q' := fun F0 T F H σ lk S w pins s I =>
  wpAny_mono (h F0 T F H σ lk S w pins s I) (fun _ _ ⟨H', I', r', G', F', a, b, q⟩ => ⟨H', I', r', G', F', a, b, k _ _ _ q⟩) fun _ _ x => x
end
section
variable {α β γ : Type}
/-- an item by a Python index -/
def pix (xs : List α) (i : Int) : Option α := (ixN xs.length i).bind fun j => xs[j]?
theorem atD_map {f : α → D} {xs : List α} {i : Int} {x : α} (h : pix xs i = some x) : atD (xs.map f) i = some (f x) := by
  unfold pix at h
  unfold atD
  rw [List.length_map]
  cases e : ixN xs.length i with
  | none => rw [e] at h; cases h
  | some j =>
    rw [e] at h
    show (xs.map f)[j]? = some (f x)
    rw [List.getElem?_map, show xs[j]? = some x from h]; rfl
/-- a slice by Python bounds -/
def pcut (xs : List α) (lo hi : Option Int) : List α := (xs.drop (HT.sIx xs.length 0 lo)).take (HT.sIx xs.length xs.length hi - HT.sIx xs.length 0 lo)
theorem cutD_map {f : α → D} (xs : List α) (lo hi : Option Int) : cutD (xs.map f) lo hi = (pcut xs lo hi).map f := by
  unfold cutD pcut
  rw [List.length_map, List.map_take, List.map_drop]
theorem pcut_from (xs : List α) (j : Nat) : pcut xs (some (j : Int)) none = xs.drop j := by
  unfold pcut
  rw [HT.sIx_nat, HT.sIx_none]
  by_cases h : j ≤ xs.length
  · rw [Nat.min_eq_left h, List.take_of_length_le (by rw [List.length_drop]; exact Nat.le_refl _)]
  · rw [Nat.min_eq_right (by omega), List.drop_length, List.drop_eq_nil_of_le (by omega)]
    simp
theorem pcut_to (xs : List α) (j : Nat) : pcut xs none (some (j : Int)) = xs.take j := by
  unfold pcut
  rw [HT.sIx_nat, HT.sIx_none, List.drop_zero, Nat.sub_zero]
  by_cases h : j ≤ xs.length
  · rw [Nat.min_eq_left h]
  · rw [Nat.min_eq_right (by omega), List.take_length, List.take_of_length_le (by omega)]
/-- codes whose equality is that of the values -/
structure EqC (en : α → D) (n : Nat) : Prop where
  ok : ∀ a, okD n (en a)
  eq : ∀ a b, eqD (en a) (en b) = true ↔ a = b
theorem EqC.dec [DecidableEq α] {en : α → D} {n : Nat} (h : EqC en n) (a b : α) : eqD (en a) (en b) = decide (a = b) := by
  by_cases e : a = b
  · rw [decide_eq_true e]; exact (h.eq a b).mpr e
  · rw [decide_eq_false e]
    cases q : eqD (en a) (en b) with
    | false => rfl
    | true => exact absurd ((h.eq a b).mp q) e
theorem eqc_int : EqC eI 0 := ⟨fun _ => trivial, fun a b => by
  show PyData.eqv (.int a) (.int b) = true ↔ a = b
  exact beq_iff_eq⟩
end
open Out (Rt)
abbrev S := { x : Str // PyData.strOk x = true }
abbrev eZ : S → D := fun s => .str s.1
abbrev kZ : S → Key := fun s => Sum.inr s.1
theorem kZ_inj : KInj kZ := fun a b h => Subtype.ext (Sum.inr.inj h)
theorem eqc_bool : EqC eB 0 := ⟨fun _ => trivial, fun a b => by
  show PyData.eqv (.bool a) (.bool b) = true ↔ a = b
  exact beq_iff_eq⟩
theorem eqc_str : EqC eZ 0 := ⟨fun a => a.2, fun a b => by
  show PyData.eqv (.str a.1) (.str b.1) = true ↔ a = b
  rw [show PyData.eqv (.str a.1) (.str b.1) = (a.1 == b.1) from rfl, beq_iff_eq]
  exact ⟨Subtype.ext, congrArg _⟩⟩
theorem eqv_all {α : Type} {f : α → D} {n : Nat} (h : EqC f n) : ∀ xs ys : List α, PyData.eqvAll (toPs (xs.map f)) (toPs (ys.map f)) = true ↔ xs = ys
  | [], [] => by simp [toPs, PyData.eqvAll]
  | [], y :: ys => by simp [toPs, PyData.eqvAll]
  | x :: xs, [] => by simp [toPs, PyData.eqvAll]
  | x :: xs, y :: ys => by
    show (PyData.eqv (toP (f x)) (toP (f y)) && PyData.eqvAll (toPs (xs.map f)) (toPs (ys.map f))) = true ↔ _
    rw [Bool.and_eq_true, eqv_all h xs ys, show PyData.eqv (toP (f x)) (toP (f y)) = true ↔ x = y from h.eq x y, List.cons.injEq]
theorem eqc_tup {α : Type} {f : α → D} {n : Nat} (h : EqC f n) : EqC (eT f) (n + 1) := ⟨fun xs d hd => by
  obtain ⟨x, _, rfl⟩ := List.mem_map.mp hd
  exact h.ok x, fun a b => eqv_all h a b⟩
theorem eqc_lst {α : Type} {f : α → D} {n : Nat} (h : EqC f n) : EqC (eL f) (n + 1) := ⟨fun xs d hd => by
  obtain ⟨x, _, rfl⟩ := List.mem_map.mp hd
  exact h.ok x, fun a b => eqv_all h a b⟩
section
variable {X : Cy} {e a b c o tg kx vx elt i : Expr} {es ifs : List Expr} {st : Stmt} {sts rest body orelse : List Stmt} {r : Env2} {G : GD} {pos tpos apos cpos p0 : Pos} {D0 : EndsD} {α β γ σT ρ : Type}
theorem opw_eqC [DecidableEq α] {en : α → D} {n : Nat} (h : EqC en n) (hu : X.A.units + 64 < cLine) (x y : α) {Q : Res → Prop} (q : Q (.sh (.bl (decide (x = y))))) (hn : n ≤ 64 := by decide) : OpW X (compareOp .Eq) (en x) (en y) Q :=
  opw_eqD hu (h.ok x) (h.ok y) hn (by rw [h.dec]; exact q)
theorem opw_neC [DecidableEq α] {en : α → D} {n : Nat} (h : EqC en n) (hu : X.A.units + 64 < cLine) (x y : α) {Q : Res → Prop} (q : Q (.sh (.bl (!decide (x = y))))) (hn : n ≤ 64 := by decide) : OpW X (compareOp .NotEq) (en x) (en y) Q :=
  opw_neD hu (h.ok x) (h.ok y) hn (by rw [h.dec]; exact q)
theorem t_cat {f : α → D} (xs ys : List α) {Q : Res → Prop} (hl : xs.length + ys.length ≤ LIM) (q : Q (.fr (.lst ((xs ++ ys).map f)))) : OpW X (binaryOp .Add) (.lst (xs.map f)) (.lst (ys.map f)) Q :=
  opw_cat (by rw [List.length_map, List.length_map]; exact hl) (by rw [List.map_append] at q; exact q)
theorem t_len {f : α → D} (xs : List α) {Q : Res → Prop} (q : Q (.sh (.int (xs.length : Nat)))) : CallW1 X (.builtin "len") (.lst (xs.map f)) Q := c_len (by rw [List.length_map]; exact q)
theorem t_lenT {f : α → D} (xs : List α) {Q : Res → Prop} (q : Q (.sh (.int (xs.length : Nat)))) : CallW1 X (.builtin "len") (.tup (xs.map f)) Q := c_lenT (by rw [List.length_map]; exact q)
theorem t_lenD {κ ν : Type} {k : κ → Key} {f : ν → D} (kvs : List (κ × ν)) {Q : Res → Prop} (q : Q (.sh (.int (kvs.length : Nat)))) : CallW1 X (.builtin "len") (eD k f kvs) Q := by
  have := c_lenD (X := X) (Q := Q) (acc := eDl k f kvs) (by unfold eDl; rw [List.length_map]; exact q)
  rw [eD_dicD] at this
  exact this
theorem t_ix {f : α → D} {xs : List α} {i : Int} {x : α} {Q : Res → Prop} (h : pix xs i = some x) (q : Q (.sh (f x))) : IxW X (.lst (xs.map f)) (.int i) Q := ixw_lst (atD_map h) q
theorem t_ixT {f : α → D} {xs : List α} {i : Int} {x : α} {Q : Res → Prop} (h : pix xs i = some x) (q : Q (.sh (f x))) : IxW X (.tup (xs.map f)) (.int i) Q := ixw_tup (atD_map h) q
theorem t_sl {f : α → D} {xs : List α} {lo hi : Option Int} {Q : Res → Prop} (q : Q (.fr (.lst ((pcut xs lo hi).map f)))) : SlW X (.lst (xs.map f)) lo hi Q := slw_lst (by rw [cutD_map]; exact q)
theorem t_slT {f : α → D} {xs : List α} {lo hi : Option Int} {Q : Res → Prop} (q : Q (.sh (.tup ((pcut xs lo hi).map f)))) : SlW X (.tup (xs.map f)) lo hi Q := slw_tup (by rw [cutD_map]; exact q)
/-- xs.append(e), xs an own slot -/
theorem we_appendT {f : α → D} {Q : Res → Env2 → GD → Prop}
    (h : WE X o r G fun x r1 G1 => ∃ i xs0, x = .pk i ∧ r1[i]? = some (.own (.lst (List.map f xs0))) ∧ WE X e r1 G1 fun y r2 G2 => ∃ z r3 xs, fz r2 y = some (f z, r3) ∧ r3[i]? = some (.own (.lst (List.map f xs))) ∧ xs.length < LIM ∧ Q (.sh .non) (r3.set i (.own (.lst ((xs ++ [z]).map f)))) G2)
    (hbase : attributeBase o "append" X.env (eval o X.env) = eval o X.env := by rfl)
    (hfew : ((backTo cpos (starEach [e] X.env)).all (fun x => !x.1) && (backToKw cpos (keywordEach [] X.env)).all (fun x => x.1.isSome) && decide (([e] : List Expr).length + ([] : List Keyword).length + (if ([] : List Keyword).isEmpty then 0 else 1) < 30)) = true := by rfl)
    (hline : (apos.endLine == cpos.line) = true := by rfl) (hs : starEach [e] X.env = (false, eval e X.env) :: starEach [] X.env := by rfl) (hplain : (backTo cpos (starEach [] X.env)).any (·.1) = false := by rfl) :
    WE X (.Call (.Attribute o "append" apos) [e] [] cpos) r G Q :=
  we_append (h.mono fun x r1 G1 ⟨i, xs0, h1, h2, h3⟩ => ⟨i, _, h1, h2, h3.mono fun y r2 G2 ⟨z, r3, xs, k1, k2, k3, k4⟩ => ⟨f z, r3, _, k1, k2, by rw [List.length_map]; exact k3, by rw [List.map_append] at k4; exact k4⟩⟩) hbase hfew hline hs hplain
theorem we_extendT {f : α → D} {Q : Res → Env2 → GD → Prop}
    (h : WE X o r G fun x r1 G1 => ∃ i xs0, x = .pk i ∧ r1[i]? = some (.own (.lst (List.map f xs0))) ∧ WE X e r1 G1 fun y r2 G2 => ∃ zs r3 xs, fz r2 y = some (.lst (List.map f zs), r3) ∧ r3[i]? = some (.own (.lst (List.map f xs))) ∧ xs.length + zs.length ≤ LIM ∧ Q (.sh .non) (r3.set i (.own (.lst ((xs ++ zs).map f)))) G2)
    (hbase : attributeBase o "extend" X.env (eval o X.env) = eval o X.env := by rfl)
    (hfew : ((backTo cpos (starEach [e] X.env)).all (fun x => !x.1) && (backToKw cpos (keywordEach [] X.env)).all (fun x => x.1.isSome) && decide (([e] : List Expr).length + ([] : List Keyword).length + (if ([] : List Keyword).isEmpty then 0 else 1) < 30)) = true := by rfl)
    (hline : (apos.endLine == cpos.line) = true := by rfl) (hs : starEach [e] X.env = (false, eval e X.env) :: starEach [] X.env := by rfl) (hplain : (backTo cpos (starEach [] X.env)).any (·.1) = false := by rfl) :
    WE X (.Call (.Attribute o "extend" apos) [e] [] cpos) r G Q :=
  we_extend (h.mono fun x r1 G1 ⟨i, xs0, h1, h2, h3⟩ => ⟨i, _, h1, h2, h3.mono fun y r2 G2 ⟨zs, r3, xs, k1, k2, k3, k4⟩ => ⟨_, r3, _, k1, k2, by rw [List.length_map, List.length_map]; exact k3, by rw [List.map_append] at k4; exact k4⟩⟩) hbase hfew hline hs hplain
def penumF (k : Nat) : List α → List (Int × α)
  | [] => []
  | x :: xs => ((k : Int), x) :: penumF (k + 1) xs
/-- enumerate -/
def penum (xs : List α) : List (Int × α) := penumF 0 xs
theorem enum_map {f : α → D} : ∀ (xs : List α) (k : Nat), enumD k (xs.map f) = (penumF k xs).map (eP eI f)
  | [], k => rfl
  | x :: xs, k => by
    rw [List.map_cons]
    show D.tup [.int (k : Int), f x] :: enumD (k + 1) (xs.map f) = _
    rw [enum_map xs (k + 1)]; rfl
theorem penumF_len : ∀ (xs : List α) (k : Nat), (penumF k xs).length = xs.length
  | [], _ => rfl
  | x :: xs, k => by unfold penumF; rw [List.length_cons, List.length_cons, penumF_len xs]
section
variable {elts : List Expr} {kk : Nat}
theorem ti_lst {f : α → D} {Q : List D → Env2 → GD → Prop} (h : WE X e r G fun x r1 G1 => ∃ xs r2, fz r1 x = some (.lst (List.map f xs), r2) ∧ (xs.length ≤ LIM → Q (xs.map f) r2 G1)) : WI X tg e r G Q :=
  wi_lst (h.mono fun x r1 G1 ⟨xs, r2, h1, h2⟩ => ⟨_, r2, h1, fun hl => h2 (by rw [List.length_map] at hl; exact hl)⟩)
theorem ti_tup {f : α → D} {Q : List D → Env2 → GD → Prop} (h : WE X e r G fun x r1 G1 => ∃ xs r2, fz r1 x = some (.tup (List.map f xs), r2) ∧ (xs.length ≤ LIM → Q (xs.map f) r2 G1)) : WI X tg e r G Q :=
  wi_tup (h.mono fun x r1 G1 ⟨xs, r2, h1, h2⟩ => ⟨_, r2, h1, fun hl => h2 (by rw [List.length_map] at hl; exact hl)⟩)
theorem ti_enumT {f : α → D} {Q : List D → Env2 → GD → Prop} (hg : Gl X "enumerate") (hm : X.mg "enumerate" = none) (h : WE X a r G fun x r1 G1 => ∃ xs r2, fz r1 x = some (.tup (List.map f xs), r2) ∧ ((penum xs).length ≤ LIM → Q ((penum xs).map (eP eI f)) r2 G1)) (hst : starEach [a] X.env = [(false, eval a X.env)] := by rfl) :
    WI X (.Tuple elts kk tpos) (.Call (.Name "enumerate" p0) [a] [] pos) r G Q :=
  wi_enumT hg hm (h.mono fun x r1 G1 ⟨xs, r2, h1, h2⟩ => ⟨_, r2, h1, fun hl => by rw [enum_map]; exact h2 (by unfold penum; rw [penumF_len]; rw [List.length_map] at hl; exact hl)⟩) hst
theorem ti_keys {κ ν : Type} {k : κ → Key} {f : ν → D} {Q : List D → Env2 → GD → Prop} (h : WE X e r G fun x r1 G1 => ∃ kvs r2, fz r1 x = some (eD k f kvs, r2) ∧ ((kvs.map (·.1)).length ≤ LIM → Q ((kvs.map (·.1)).map fun x => kD (k x)) r2 G1)) : WI X tg e r G Q :=
  wi_keys (h.mono fun x r1 G1 ⟨kvs, r2, h1, h2⟩ => ⟨_, _, r2, h1, fun hl => by
    rw [List.length_map] at hl
    have := h2 (by rw [List.length_map]; exact hl)
    rw [List.map_map] at this ⊢
    exact this⟩)
end
end
open Out (Rt)
/-- a text of the mirrors -/
abbrev zs (x : Str) (h : PyData.strOk x = true := by decide) : S := ⟨x, h⟩
section
variable {X : Cy} {e a b c o tg kx vx elt i : Expr} {es ifs : List Expr} {st : Stmt} {sts rest body orelse : List Stmt} {r : Env2} {G : GD} {pos tpos apos cpos p0 : Pos} {D0 : EndsD} {α β γ σT ρ : Type}
/-- [elt for tg in e if ..], by a mirror with a state -/
theorem lcS_preP {scope : Scope} (own : List (Str × Nat)) (R : Env2) (gg : σT → GD) {en : α → D} (ey : β → D) {Q : Res → Env2 → GD → Prop}
    (h : WI X tg e r G fun ds r2 G1 => ∃ (xs : List α) (s0 : σT) (f : σT → α → Out (Option β × σT)) (kk : List β × σT → Out γ) (Q0 : γ → Prop) (E : Xm → Prop), ds = xs.map en ∧ xs.length ≤ LIM ∧ Wk (wipeD r2 (own.map (·.2))) R ∧ G1 = gg s0 ∧ ((Out.compS f xs [] s0).bind kk).sat Q0 E ∧
      (∀ s x (Q' : Option β × σT → Prop), (f s x).sat Q' E → Blk X scope fun Y => WG Y tg (en x) R (gg s) (own.map (·.2)) fun r3 G3 => match ifs with
        | [] => Blk X scope fun Y => WE Y elt r3 G3 fun z r4 G4 => ∃ y s' r5, fz r4 z = some (ey y, r5) ∧ Wk (wipeD r5 (own.map (·.2))) R ∧ G4 = gg s' ∧ Q' (some y, s')
        | [c] => Blk X scope fun Y => WT Y c r3 G3 fun b r4 G4 => (b = true → Blk X scope fun Y => WE Y elt r4 G4 fun z r5 G5 => ∃ y s' r6, fz r5 z = some (ey y, r6) ∧ Wk (wipeD r6 (own.map (·.2))) R ∧ G5 = gg s' ∧ Q' (some y, s')) ∧ (b = false → ∃ s', Wk (wipeD r4 (own.map (·.2))) R ∧ G4 = gg s' ∧ Q' (none, s'))
        | _ => False) ∧ ∀ p : List β × σT, (kk p).sat Q0 E → Q (.fr (.lst (p.1.map ey))) R (gg p.2)) : LcPre X scope tg e elt ifs (own.map (·.2)) r G (atR Q) :=
  lcS_pre own R gg ey (h.mono fun ds r2 G1 ⟨xs, s0, f, kk, Q0, E, h1, h2, h3, h4, h5, h6, h7⟩ => ⟨xs, s0, f, kk, Q0, E, h1, h2, h3, h4, h5, h6, fun ys s' q => h7 (ys, s') q⟩)
/-- dict(pairs) -/
theorem fold_putD {κ ν : Type} [DecidableEq κ] {k : κ → Key} {f : ν → D} (hk : KInj k) : ∀ (xs acc : List (κ × ν)), (eDl k f xs).foldl (fun acc kv => putD acc kv.1 kv.2) (eDl k f acc) = eDl k f (xs.foldl (fun acc p => dput acc p.1 p.2) acc)
  | [], _ => rfl
  | x :: xs, acc => by
    show (eDl k f xs).foldl _ (putD (eDl k f acc) (k x.1) (f x.2)) = _
    rw [putD_eDl hk, fold_putD hk xs]; rfl
/-- what is not None -/
theorem we_some {f : α → D} {Q : Res → Env2 → GD → Prop} (h : WE X e r G fun z r1 G1 => ∃ (x : Option α) (y : α), z = .sh (eO f x) ∧ x = some y ∧ Q (.sh (f y)) r1 G1) : WE X e r G Q :=
  h.mono fun z r1 G1 ⟨x, y, h1, h2, q⟩ => by subst h1 h2; exact q
theorem t_isN {f : α → D} (hf : ∀ a, isNon (f a) = false) {x : Option α} {Q : Res → Prop} (q : Q (.sh (.bl x.isNone))) : OpW X (compareOp .Is) (eO f x) .non Q := by
  refine opw_isN ?_
  have : isNon (eO f x) = x.isNone := by
    cases x with
    | none => rfl
    | some a => exact hf a
  rw [this]; exact q
theorem t_notN {f : α → D} (hf : ∀ a, isNon (f a) = false) {x : Option α} {Q : Res → Prop} (q : Q (.sh (.bl (!x.isNone)))) : OpW X (compareOp .IsNot) (eO f x) .non Q := by
  refine opw_notN ?_
  have : isNon (eO f x) = x.isNone := by
    cases x with
    | none => rfl
    | some a => exact hf a
  rw [this]; exact q
end
open Out (Rt)
abbrev Tin (G : GD) (H : Hp) (x dx : Addr) : Hp := fun a => if a = x ∨ a = dx then none else Tof G H a
theorem Bas.tin {K : PySem.W.Frag} {F F' H H' : Hp} {G G' : GD} {x dx : Addr} (B : Bas K F (Tof G H) F' G' H') : Bas K F (Tin G H x dx) F' G' H' := by
  refine ⟨B.ff, fun a o h => ?_, B.fh, B.gh, B.fg, fun a o h => ?_, fun a o h => ?_⟩
  · rcases B.ft a o h with z | z
    · exact .inl z
    · right; show (if _ then _ else _) = _; split
      · rfl
      · exact z
  · show (if _ then _ else _) = _
    split
    · rfl
    · exact B.gt a o h
  · have h' : (if a = x ∨ a = dx then none else Tof G H a) = some o := h
    split at h'
    · cases h'
    · exact B.tk a o h'
theorem init_frame {K : PySem.W.Frag} {F H F' H' H2 : Hp} {G G' : GD} {x dx C : Addr} {vs : List (Option V)} (B : Bas K F (Tof G H) F' G' H') (fx : F x = none) (fd : F dx = none) (gx : G x = none) (gd : G dx = none) (hx : H x = some (.ins C dx [])) (hd : H dx = some (.own x)) (hne : dx ≠ x) (e2 : H2 = SlX.slH H' x C dx vs) :
    ∃ F2, Ex F' F2 ∧ Bas K F (Tin G H x dx) F2 G' H2 ∧ SlX.Slt F2 x C dx vs := by
  have tx : Tof G H x = some (.ins C dx []) := by rw [Tof_none gx]; exact hx
  have td : Tof G H dx = some (.own x) := by rw [Tof_none gd]; exact hd
  have fx' : F' x = none := by
    cases e : F' x with
    | none => rfl
    | some u =>
      rcases B.ft x u e with z | z
      · rw [fx] at z; cases z
      · rw [tx] at z; cases z
  have fd' : F' dx = none := by
    cases e : F' dx with
    | none => rfl
    | some u =>
      rcases B.ft dx u e with z | z
      · rw [fd] at z; cases z
      · rw [td] at z; cases z
  have gx' : G' x = none := by
    cases e : G' x with
    | none => rfl
    | some u => have := B.gt x u e; rw [tx] at this; cases this
  have gd' : G' dx = none := by
    cases e : G' dx with
    | none => rfl
    | some u => have := B.gt dx u e; rw [td] at this; cases this
  have h2 : ∀ a, a ≠ x → a ≠ dx → H2 a = H' a := fun a h1 h2 => by rw [e2]; exact SlX.slH_ne h1 h2
  have ef : Ex F' (SlX.slH F' x C dx vs) := fun a o h => by rw [SlX.slH_ne (ne_of_none h fx') (ne_of_none h fd')]; exact h
  have ng : ∀ {a : Addr} {o : D}, G' a = some o → a ≠ x ∧ a ≠ dx := fun {a o} h => ⟨fun z => (by rw [z, gx'] at h; cases h), fun z => (by rw [z, gd'] at h; cases h)⟩
  refine ⟨SlX.slH F' x C dx vs, ef, ⟨fun a o h => ef a o (B.ff a o h), fun a o h => ?_, fun a o h => ?_, fun a o h => ?_, fun a o h => ?_, fun a o h => ?_, fun a o h => ?_⟩, SlX.slH_slt hne⟩
  · by_cases h1 : a = x
    · right; show (if _ then _ else _) = _; rw [if_pos (.inl h1)]
    · by_cases h2 : a = dx
      · right; show (if _ then _ else _) = _; rw [if_pos (.inr h2)]
      · rw [SlX.slH_ne h1 h2] at h
        rcases B.ft a o h with z | z
        · exact .inl z
        · right; show (if _ then _ else _) = _; rw [if_neg (by simp [h1, h2])]; exact z
  · by_cases h1 : a = x
    · subst h1; rw [e2]; unfold SlX.slH at h ⊢; rw [upd_same] at h ⊢; exact h
    · by_cases h3 : a = dx
      · subst h3; rw [e2]; unfold SlX.slH at h ⊢; rw [upd_ne h1, upd_same] at h ⊢; exact h
      · rw [SlX.slH_ne h1 h3] at h; rw [h2 a h1 h3]; exact B.fh a o h
  · obtain ⟨n1, n2⟩ := ng h
    exact (B.gh a o h).mono ef fun o q => by rw [h2 a n1 n2]; exact q
  · obtain ⟨n1, n2⟩ := ng h
    rw [SlX.slH_ne n1 n2]; exact B.fg a o h
  · show (if _ then _ else _) = _
    split
    · rfl
    · exact B.gt a o h
  · have h' : (if a = x ∨ a = dx then none else Tof G H a) = some o := h
    by_cases h1 : a = x ∨ a = dx
    · rw [if_pos h1] at h'; cases h'
    · rw [if_neg h1] at h'
      rw [h2 a (fun z => h1 (.inl z)) (fun z => h1 (.inr z))]; exact B.tk a o h'
section
variable {P : Program} {w : World} {K : PySem.W.Frag} {mg : Str → Option Value} {base : Heap}
/-- .. two slots, stored from names at the end: the second slot first -/
theorem init2r_ok {x qual : Str} {st : Stmt} {g : Addr} {fd : FuncData} {N ps : List Str} {k : Nat} {C q0 q1 : Addr} {f0 f1 : Str} {f : FSpI} (Fo : Fun K x qual st g fd) (S : FnScope N ps (defScope st)) (c : SlX.SCls K C) (t0 : SlX.Slot1 K C f0 q0 1) (t1 : SlX.Slot1 K C f1 q1 0)
    (len : ∀ ds G post px, f ds G post px → ds.length + 1 = ps.length)
    (pre : List Stmt) (s0 s1 : Stmt) (i0 i1 : Nat) (hb : defBody st = pre ++ [s0, s1])
    (hbody : ∀ (cdv : Value) (A : Around) (outer : List Env) (s : Shared) (H : Hp) (E : XK) (F T : Hp), Room k (A.deeper (envOfC qual (defScope st) s.heap.objs.size g cdv)) → ∀ (px : Exn → GD → Prop),
      PS (cyOf P w K mg base N qual (defScope st) g cdv A outer s H E F T px).toCx s0 (SlX.sSl K (tVar 0) (tVar i0) f0) ∧ PS (cyOf P w K mg base N qual (defScope st) g cdv A outer s H E F T px).toCx s1 (SlX.sSl K (tVar 0) (tVar i1) f1) ∧
      ∀ (a : Addr) (ds : List D) (G : GD) (post : List D → GD → Prop), f ds G post px → (cyOf P w K mg base N qual (defScope st) g cdv A outer s H E F T px).Tk → PassesOwn (model P w) (cyOf P w K mg base N qual (defScope st) g cdv A outer s H E F T px).A (cyOf P w K mg base N qual (defScope st) g cdv A outer s H E F T px).env (cyOf P w K mg base N qual (defScope st) g cdv A outer s H E F T px).xe →
      WB (cyOf P w K mg base N qual (defScope st) g cdv A outer s H E F T px) pre (startD N (.adr a :: ds)) G { nx := fun r G' => r[0]? = some (Sl.sh (.adr a)) ∧ ∃ d0 d1, r[i0]? = some (Sl.sh d0) ∧ r[i1]? = some (Sl.sh d1) ∧ post [d1, d0] G', rt := fun _ _ => False }) :
    FnOk P w K mg base (L2.CX P w) (k + 1) g fd ps (spI K C f) := by
  refine Fo.okX S (fun vs H Q E h => ?_) (fun cdv A outer s H vs Q E hr h => ?_)
  · obtain ⟨a, dx, us, F, G, ds, post, px, rfl, _, _, _, _, _, _, _, _, _, _, rp, hf, _⟩ := h
    rw [List.length_cons, rp.length]; exact len ds G post px hf
  · obtain ⟨a, dx, us, F, G, ds, post, px, rfl, hx, hd, hne, fx, fdx, gx, gdx, e1, e2, e3, rp, hf, hq, hxn⟩ := h
    refine ⟨RunB _ (defBody st), pbR, ?_⟩
    obtain ⟨p0, p1, hW⟩ := hbody cdv A outer s H E F (Tof G H) hr px
    have hl : (D.adr a :: ds).length ≤ N.length := by
      rw [List.length_cons, len ds G post px hf]
      have := congrArg List.length S.pre
      rw [List.length_take] at this
      omega
    rw [hb]
    have S0 := sta_start (N := N) (ds := .adr a :: ds) (vs := .ref a :: us) hl e1 e2 e3 ⟨_, _, rfl, rfl, rp⟩
    have tk : (cyOf P w K mg base N qual (defScope st) g cdv A outer s H E F (Tof G H) px).Tk := (takes_of (E := E) rfl rfl rfl rfl).imp fun cls d σ H' ⟨r, G', F', x, S', ex, q⟩ => hxn x cls d G' H' F' q S'.bas.tin ex
    have go := hW a ds G post hf tk (passes_of rfl) F (Tof G H) F H (L2.start N (.ref a :: us)) ⟨Ex.refl _, Ex.refl _, fun _ _ z => .inl z⟩ S0
    refine runB_then (X := cyOf P w K mg base N qual (defScope st) g cdv A outer s H E F (Tof G H) px) (go.mono (fun σ' H' ⟨r', G', F', S', h0, d0, d1, h1, h2, hy⟩ => ?_) (fun v H' ⟨x, G', F', B, rt, q⟩ => q.elim) (fun _ _ ⟨_, _, _, _, q⟩ => q) (fun _ _ ⟨_, _, _, _, q⟩ => q))
    obtain ⟨va, a1, a2⟩ := S'.sl 0 _ h0
    obtain ⟨v0, b1, b2⟩ := S'.sl i0 _ h1
    obtain ⟨v1, c1, c2⟩ := S'.sl i1 _ h2
    cases (show va = .ref a from a2)
    have tx : H' a = some (.ins C dx []) := S'.bas.tk a _ (by rw [Tof_none gx]; exact hx)
    have hs0 : SlX.Slt H' a C dx [] := .inl ⟨tx, rfl⟩
    have two : SlX.putS 0 v1 (SlX.putS 1 v0 []) = [some v1, some v0] := rfl
    refine RunB.of (pss_cons p0 (pss_cons p1 pss_nil)) ⟨v0, b1, .ref a, a1, a, C, dx, q0, [], 1, rfl, hs0, c, t0, v1, c1, .ref a, a1, a, C, dx, q1, _, 0, rfl, SlX.slH_slt hne, c, t1, ?_⟩
    rw [SlX.slH_twice hne, two]
    obtain ⟨F2, f1, f2, f3⟩ := init_frame (vs := [some v1, some v0]) S'.bas fx fdx gx gdx hx hd hne rfl
    exact hq _ G' _ F2 hy f2 ⟨a, dx, [v1, v0], rfl, f3, v1, [v0], rfl, Rep.mono f1 _ _ c2, .one (Rep.mono f1 _ _ b2)⟩
/-- .. one slot, stored at the end -/
theorem init1_ok {x qual : Str} {st : Stmt} {g : Addr} {fd : FuncData} {N ps : List Str} {k : Nat} {C q0 : Addr} {f0 : Str} {f : FSpI} (Fo : Fun K x qual st g fd) (S : FnScope N ps (defScope st)) (c : SlX.SCls K C) (t0 : SlX.Slot1 K C f0 q0 0)
    (len : ∀ ds G post px, f ds G post px → ds.length + 1 = ps.length)
    (pre : List Stmt) (s0 : Stmt) (e0 : Expr) (hb : defBody st = pre ++ [s0])
    (hbody : ∀ (cdv : Value) (A : Around) (outer : List Env) (s : Shared) (H : Hp) (E : XK) (F T : Hp), Room k (A.deeper (envOfC qual (defScope st) s.heap.objs.size g cdv)) → ∀ (px : Exn → GD → Prop),
      PS (cyOf P w K mg base N qual (defScope st) g cdv A outer s H E F T px).toCx s0 (SlX.sSl K (tVar 0) (Run (cyOf P w K mg base N qual (defScope st) g cdv A outer s H E F T px).toCx e0) f0) ∧
      ∀ (a : Addr) (ds : List D) (G : GD) (post : List D → GD → Prop), f ds G post px → (cyOf P w K mg base N qual (defScope st) g cdv A outer s H E F T px).Tk → PassesOwn (model P w) (cyOf P w K mg base N qual (defScope st) g cdv A outer s H E F T px).A (cyOf P w K mg base N qual (defScope st) g cdv A outer s H E F T px).env (cyOf P w K mg base N qual (defScope st) g cdv A outer s H E F T px).xe →
      WB (cyOf P w K mg base N qual (defScope st) g cdv A outer s H E F T px) pre (startD N (.adr a :: ds)) G { nx := fun r G' => WE (cyOf P w K mg base N qual (defScope st) g cdv A outer s H E F T px) e0 r G' fun y r1 G1 => ∃ d r2, fz r1 y = some (d, r2) ∧ r2[0]? = some (Sl.sh (.adr a)) ∧ post [d] G1, rt := fun _ _ => False }) :
    FnOk P w K mg base (L2.CX P w) (k + 1) g fd ps (spI K C f) := by
  refine Fo.okX S (fun vs H Q E h => ?_) (fun cdv A outer s H vs Q E hr h => ?_)
  · obtain ⟨a, dx, us, F, G, ds, post, px, rfl, _, _, _, _, _, _, _, _, _, _, rp, hf, _⟩ := h
    rw [List.length_cons, rp.length]; exact len ds G post px hf
  · obtain ⟨a, dx, us, F, G, ds, post, px, rfl, hx, hd, hne, fx, fdx, gx, gdx, e1, e2, e3, rp, hf, hq, hxn⟩ := h
    refine ⟨RunB _ (defBody st), pbR, ?_⟩
    obtain ⟨p0, hW⟩ := hbody cdv A outer s H E F (Tof G H) hr px
    have hl : (D.adr a :: ds).length ≤ N.length := by
      rw [List.length_cons, len ds G post px hf]
      have := congrArg List.length S.pre
      rw [List.length_take] at this
      omega
    rw [hb]
    have S0 := sta_start (N := N) (ds := .adr a :: ds) (vs := .ref a :: us) hl e1 e2 e3 ⟨_, _, rfl, rfl, rp⟩
    have tk : (cyOf P w K mg base N qual (defScope st) g cdv A outer s H E F (Tof G H) px).Tk := (takes_of (E := E) rfl rfl rfl rfl).imp fun cls d σ H' ⟨r, G', F', x, S', ex, q⟩ => hxn x cls d G' H' F' q S'.bas.tin ex
    have lk : Lk (cyOf P w K mg base N qual (defScope st) g cdv A outer s H E F (Tof G H) px) F (Tof G H) := ⟨Ex.refl _, Ex.refl _, fun _ _ z => .inl z⟩
    have go := hW a ds G post hf tk (passes_of rfl) F (Tof G H) F H (L2.start N (.ref a :: us)) lk S0
    refine runB_then (X := cyOf P w K mg base N qual (defScope st) g cdv A outer s H E F (Tof G H) px) (go.mono (fun σ' H' ⟨r', G', F', S', hw⟩ => ?_) (fun v H' ⟨x, G', F', B, rt, q⟩ => q.elim) (fun _ _ ⟨_, _, _, _, q⟩ => q) (fun _ _ ⟨_, _, _, _, q⟩ => q))
    refine RunB.of (pss_cons p0 pss_nil) ((hw F (Tof G H) F' H' σ' lk S').mono fun v0 H1 ⟨y, r1, G1, F1, e4, S1, k1, d, r2, q1, q2, q3⟩ => ?_)
    obtain ⟨F3, e5, S3, rp3⟩ := S1.fz k1 q1
    obtain ⟨va, a1, a2⟩ := S3.sl 0 _ q2
    cases (show va = .ref a from a2)
    have tx : H1 a = some (.ins C dx []) := S3.bas.tk a _ (by rw [Tof_none gx]; exact hx)
    have hs0 : SlX.Slt H1 a C dx [] := .inl ⟨tx, rfl⟩
    have one : SlX.putS 0 v0 [] = [some v0] := rfl
    refine ⟨.ref a, a1, a, C, dx, q0, [], 0, rfl, hs0, c, t0, ?_⟩
    rw [one]
    obtain ⟨F2, f1, f2, f3⟩ := init_frame (vs := [some v0]) S3.bas fx fdx gx gdx hx hd hne rfl
    exact hq _ G1 _ F2 q3 f2 ⟨a, dx, [v0], rfl, f3, .one (Rep.mono f1 _ _ rp3)⟩
end
/-- the promise of a class's making by a mirror -/
def FMI (cx : Nat → Addr) {A R : Type} (en : A → List D) (es : R → List D) (f : A → Out R) : FSpI := fun ds G post px => ∃ a : A, ds = en a ∧ (f a).sat (fun v => post (es v) G) (fun m => px (xnOf cx m) G)
theorem kit_same {K : PySem.W.Frag} {t : Value} (h : (t == t) = true) : PySem.W.kitOne K t t = some true := if_pos h
open Out (Rt)
structure ItemD (P : Program) (w : World) (K : PySem.W.Frag) (mg : Str → Option Value) (base : Heap) (C : Addr) (k : Nat) (ps : List Str) (sp : FSp) : Prop where
  ex : ∃ (g : Addr) (fd : FuncData), PySem.W.findIn K (.ref C) "__getitem__" = some (some (.ref g)) ∧ PySem.W.isFn K (.ref g) = true ∧ PySem.W.fnIn K g = true ∧ FnOk P w K mg base (CX P w) k g fd ps (spD K sp) ∧ Binds K fd ps []
def NoSlP (b : Expr) : Prop := ∀ o i, subscripted b true o i = runValue (.builtin "lifetime.subscript" ⟨[o, i], []⟩)
section
variable {X : Cy} {e a b c o tg kx vx elt i : Expr} {es ifs : List Expr} {st : Stmt} {sts rest body orelse : List Stmt} {r : Env2} {G : GD} {pos tpos apos cpos p0 : Pos} {D0 : EndsD} {α β γ σT ρ : Type}
def rIxOwn (C : Addr) (sp : Sp) (E : XK) : R2 := fun x y H Q => ∃ a dx vs, x = .ref a ∧ SlX.Slt H a C dx vs ∧ sp [x, y] H Q E
theorem pe_subOwn {X : Cx} {ta tb : TE} {C g : Addr} {CX : CXT} {n : Nat} {sp : Sp} {E : XK} (ha : PE X a ta) (hb : PE X b tb) (hs : PySem.W.findIn X.K (.ref C) "__getitem__" = some (some (.ref g))) (hf : PySem.W.isFn X.K (.ref g) = true) (hfn : PySem.W.fnIn X.K g = true) (F : FnR X.prog X.w X.K X.mg X.base CX n g sp) (hr : Room (n + 1) X.A) (hx : Passes CX X E) (hsl : NoSlP b) :
    PE X (.Subscript a b pos) (tOp (rIxOwn C sp E) ta tb) := by
  refine ⟨fun pins s σ H Q I h => ?_⟩
  refine Subscript_ (binT ha hb I h fun v u s2 x y H2 I2 rx ry q => ?_)
  obtain ⟨ad, dx, vs, rfl, hsl2, q⟩ := q
  cases (show v = Value.ref ad from rx)
  obtain ⟨sl, od, _, J, _⟩ := SlX.slt_inst I2 hsl2
  obtain ⟨m, hF⟩ := I2.fr
  refine PySem.W.sub_K hF I2.ok.mod.kin J hs hfn hf (wpAny_call (SlX.run_at (us := [.ref ad, u]) (ws := [.ref ad, y]) F hr.in1 I2.env0.in1 hx I2 (.cons rfl (.cons ry .nil)) q)) (hsl _ _)
theorem we_item {C : Addr} {k j : Nat} {ps : List Str} {sp : FSp} {Q : Res → Env2 → GD → Prop} (M : ItemD X.prog X.w X.K X.mg X.base C k ps sp) (hr : Room j X.A)
    (h : WE X a r G fun x r1 G1 => WE X b r1 G1 fun y r2 G2 => ∃ ds d r3, vw r2 x = some (.ins C ds) ∧ fz r2 y = some (d, r3) ∧ sp [.ins C ds, d] G2 (fun z G3 => Q z r3 G3) (fun _ _ => False)) (hj : k + 1 ≤ j := by omega) (hsl : NoSlP b := by intro _ _; rfl) : WE X (.Subscript a b pos) r G Q := fun F0 T F H σ lk S => by
  obtain ⟨g, fd, h1, h2, h3, h4, h5⟩ := M.ex
  refine Run.of (pe_subOwn (E := fun _ _ _ => False) peR peR h1 h2 h3 (fnr h4 h5) (hr.mono hj) passF hsl) ?_
  refine (h F0 T F H σ lk S).mono fun va H1 ⟨x, r1, G1, F1, e1, S1, k1, h1⟩ => ?_
  obtain ⟨F1', e1', S1', hv⟩ := hold S1 k1
  refine (h1 F0 T F1' H1 σ lk S1').mono fun vb H2 ⟨y, r2, G2, F2, e2, S2, k2, ds, d, r3, q1, q2, q3⟩ => ?_
  have vx := hv F2 G2 H2 r2 _ e2 S2 (.inl q1)
  obtain ⟨F3, e3, S3, rp⟩ := S2.fz k2 q2
  have ra := Rep.mono e3 _ _ vx.rep_ins
  obtain ⟨ad, dx, vs, rfl, z1, z2⟩ := vx.ins S2.bas.fh
  exact ⟨ad, dx, vs.map some, rfl, z1, spD_of0 (ds := [.ins C ds, d]) S3 (((e1.trans e1').trans e2).trans e3) ⟨_, _, rfl, ra, .one rp⟩ q3⟩
end
structure Rul where
  error : Int
  marks : List Int
deriving DecidableEq, Inhabited
abbrev eRul (C : Addr) : Rul → D := fun r => .ins C [.int r.error, .tup (r.marks.map D.int)]
structure Rak where
  held : List (S × Rul)
deriving DecidableEq
abbrev eRak (CK CR : Addr) : Rak → D := fun r => .ins CK [eD kZ (eRul CR) r.held]
structure Cl_Ruler (K : PySem.W.Frag) (C : Addr) : Prop where
  cls : SlX.SCls K C
  isi : SlX.SIsi K C
  s0 : ∃ p, SlX.Slot1 K C "own_error" p 0
  s1 : ∃ p, SlX.Slot1 K C "own_marks" p 1
  same : PySem.W.kitOne K (.ref C) (.ref C) = some true
  nf : PySem.W.notFirst K C (.ref C) = true
structure Cl_Rack (K : PySem.W.Frag) (C : Addr) : Prop where
  cls : SlX.SCls K C
  isi : SlX.SIsi K C
  s0 : ∃ p, SlX.Slot1 K C "held" p 0
  same : PySem.W.kitOne K (.ref C) (.ref C) = some true
  nf : PySem.W.notFirst K C (.ref C) = true
namespace RBT
open PySem PySem.Calls PyProof.Rows PyProof.V PySem.Spec PySem.W
section
variable {prog : Program} {w : World} {A : Around} {E : Value → Shared → Prop} {s : Shared} {T : String} {r d : Addr} {n : Nat} {P : Nat → Value → Prop} {OK : Heap → Prop}
theorem code_tuple_new_kdl {Q₁ : Value → Shared → Prop} (K : KdlSrc prog w T r d n P OK) (hh : A.handled = none) (hok : OK s.heap) (hn : n ≤ sizeLine)
    (h : ∀ (h' : Heap) (tk : Nat) (acc : Array Value), (∀ b o, s.heap.get? b = some o → h'.get? b = some o) → ItemsOf P acc n →
      Q₁ (.ref h'.objs.size) { s with heap := h'.push { cls := .type "tuple", data := .seq acc }, toks := tk }) :
    codeAny (model prog w) A (.call (.builtin "tuple.__new__") ⟨[.type "tuple", .ref r], []⟩) (wants Q₁ E) s := by
  refine codeAny_of_tree ?_
  show wpAny _ A.in1 (do checkBuiltinCall "tuple.__new__" ⟨[.type "tuple", .ref r], []⟩; again (.builtin "tuple.__new__" ⟨[.type "tuple", .ref r], []⟩)) _ _ s
  refine wpAny_bind (wpAny_of_eq (F.newCall_tuple_1 _) (wpAny_pure ⟨plainId_quiet F.plain_tuple_new _, codeAny_builtin F.entry_tuple_new ?_⟩))
  rw [Around.under_plainId F.plain_tuple_new _]
  have hsub := sub_tuple_self
  have hinit := init_tuple_lookup
  have hmh := madeHere_tuple
  have hTI : s.TypeIs (.ref r) T := K.type s hok
  have hh1 : A.in1.handled = none := hh
  have hnt := K.notTuple
  wp_walk using wpAny_typeOf hTI, kdu_collect (A := A.in1) K hh1 hok hn
  intro h' tk acc hk hacc
  show wpAny _ _ (Builtin.Tuple.tupleExact acc.toList.toArray >>= fun v => ret v) _ _ _
  unfold Builtin.Tuple.tupleExact
  refine wpAny_bind (wpAny_newObj_type ?_ (by show acc.toList.toArray.size ≤ sizeLine; simp only [Array.toArray_toList]; rw [hacc.1]; exact hn))
  refine wpAny_pure ?_
  have e : acc.toList.toArray = acc := by simp
  rw [e]
  exact h h' tk acc hk hacc
theorem call_tuple_kdl {Q : Value → Shared → Prop} (K : KdlSrc prog w T r d n P OK) (hh : A.handled = none) (hok : OK s.heap) (hn : n ≤ sizeLine)
    (hQ : ∀ (h' : Heap) (tk : Nat) (acc : Array Value), (∀ b o, s.heap.get? b = some o → h'.get? b = some o) → ItemsOf P acc n →
      Q (.ref h'.objs.size) { s with heap := h'.push { cls := .type "tuple", data := .seq acc }, toks := tk }) :
    wpAny (model prog w) A (call (.type "tuple") [.ref r]) Q E s := by
  refine callType_codes (Q₁ := fun obj s₁ => s₁.TypeIs obj "tuple" ∧ Q obj s₁) F.called_tuple (F.typeCall_tuple_1 _) F.entry_object_init
    (code_tuple_new_kdl (A := A.in1) K hh hok hn fun h' tk acc hk hacc => ⟨⟨_, Heap.get?_push_size _ rfl, rfl⟩, hQ h' tk acc hk hacc⟩) fun obj s₁ h₁ => ?_
  exact ⟨h₁.1, F.args_object_init_2 obj _, object_init_meets F.called_tuple.init.lookup F.called_tuple.made (by decide) prog w A.in1 _ s₁ ⟨h₁.1, rfl, h₁.2⟩⟩
end
end RBT
open Out (Rt)
theorem call_tupleD {X : Cx} (hcalm : X.calm = true) : CallR X (.type "tuple") (fun xs H Q => ∃ (a : Addr) (kvs : List (Key × V)), xs = [.ref a] ∧ Rd H a (.dK kvs) ∧ ∀ p, H p = none → Q (.ref p) (upd H p (.tup (kvs.map fun kv => kV kv.1)))) := by
  intro pins s σ H xs us Q I r q
  obtain ⟨a, kvs, ex, hd, q⟩ := q
  subst ex
  obtain ⟨u, eu, rx⟩ := vals1 r
  subst eu
  cases rx
  obtain ⟨z, lo, vs, rel, dd⟩ := dk_rd I.hok hd
  obtain ⟨ep, hat⟩ := dd.dictAt
  have ek : (kvs.map fun kv => kV kv.1) = vs.map fun p => kV p.1 := by
    have e := congrArg (List.map kV) rel.keys
    rw [List.map_map, List.map_map] at e
    exact e
  refine RBT.call_tuple_kdl (PySem.W.kdl_dict (knd := mixKind X.prog X.w) (kvs := vs) (ep := ep) lo) (I.ok.hd hcalm) hat (by rw [← rel.length]; exact z) fun h' tk acc hk hacc => ?_
  have hv : Vals (vs.map fun p => kV p.1) acc.toList := keys_at (by rw [Array.length_toList]; exact hacc.1) fun j v e => hacc.2 j v (by rw [← Array.getElem?_toList]; exact e)
  have I1 : Inv X pins σ H { s with heap := h', toks := tk } := I.kept hk
  have I2 : Inv X pins σ (upd H h'.objs.size (.tup (kvs.map fun kv => kV kv.1))) { s with heap := h'.push { cls := .type "tuple", data := .seq acc }, toks := tk } :=
    I1.laid (t' := tk) (fun b o e => Heap.get?_push_of_some _ e) (Nat.le_refl _) (show ObjOk X.prog X.w _ _ _ (.tup (kvs.map fun kv => kV kv.1)) from ⟨by rw [List.length_map]; exact z, acc.toList, by rw [ek]; exact hv, by rw [Array.toArray_toList]; exact IsTup.new _ _⟩)
  exact ⟨.ref h'.objs.size, _, I2, rfl, q _ (I1.hok.fresh (Nat.le_refl _))⟩
section
variable {X : Cy} {e a b c o tg kx vx elt i : Expr} {es ifs : List Expr} {st : Stmt} {sts rest body orelse : List Stmt} {r : Env2} {G : GD} {pos tpos apos cpos p0 : Pos} {D0 : EndsD} {α β γ σT ρ : Type}
theorem keys_rep {K : PySem.W.Frag} {F : Hp} : ∀ (ks : List Key), RepL K F (ks.map kD) (ks.map kV)
  | [] => rfl
  | k :: ks => ⟨kV k, ks.map kV, rfl, kD_rep k, keys_rep ks⟩
theorem t_tupleD {κ ν : Type} {k : κ → Key} {f : ν → D} (kvs : List (κ × ν)) (hcalm : X.calm = true) {Q : Res → Prop} (q : Q (.sh (.tup ((kvs.map (·.1)).map fun x => kD (k x))))) : CallW1 X (.type "tuple") (eD k f kvs) Q := fun F0 T F G H r σ v S hv => by
  obtain ⟨p, us, rfl, h1, h2⟩ := hv.dics S.bas.fh
  refine ⟨_, call_tupleD hcalm, p, us, rfl, h1, fun l hl => ?_⟩
  have ek : us.map (fun kv => kV kv.1) = ((kvs.map fun p => k p.1).map kV) := by
    have := h2.keys
    rw [zip_eDl] at this
    have e := congrArg (List.map kV) this
    rw [List.map_map] at e
    rw [show us.map (fun kv => kV kv.1) = List.map (kV ∘ fun x => x.fst) us from rfl, e]
    unfold eDl; rw [List.map_map, List.map_map, List.map_map]; rfl
  rw [ek]
  refine new_tup S ?_ hl q
  rw [show ((kvs.map (·.1)).map fun x => kD (k x)) = (kvs.map fun p => k p.1).map kD by rw [List.map_map, List.map_map]; rfl]
  exact keys_rep _
/-- sorted texts -/
def leS (a b : S) : Bool := decide (a.1.cps.toList ≤ b.1.cps.toList)
def ssort (xs : List S) : List S := xs.mergeSort leS
theorem t_lenS {x : S} (hl : x.1.length ≤ LIM) {Q : Res → Prop} (q : Q (.sh (.int (x.1.length : Nat)))) : CallW1 X (.builtin "len") (eZ x) Q :=
  c1_flat (d' := .int (x.1.length : Nat)) (v' := .int (x.1.length : Nat)) (fun _ _ => rfl) (fun F H v ex h => by
    have e : v = .str x.1 := by
      rcases h with z | ⟨_, _, z⟩
      · exact z
      · exact z.elim
    subst e
    exact ⟨_, call_len_str, fun P hp => ⟨_, rfl, lim_ok hl, hp⟩⟩) q
/-- the signs of a text -/
abbrev Chr := { c : Nat // c < 0x110000 }
abbrev eC : Chr → D := fun c => .str ⟨#[c.1]⟩
theorem eqc_chr : EqC eC 0 := ⟨fun c => by
    show PyData.strOk ⟨#[c.1]⟩ = true
    unfold PyData.strOk
    simp [c.2], fun a b => by
    show PyData.eqv (.str ⟨#[a.1]⟩) (.str ⟨#[b.1]⟩) = true ↔ a = b
    simp [PyData.eqv, Subtype.ext_iff]⟩
def chrs (x : S) : List Chr := x.1.cps.toList.attach.map fun c => ⟨c.1, by
  have h := x.2
  unfold PyData.strOk at h
  rw [Array.all_eq_true_iff_forall_mem] at h
  exact of_decide_eq_true (h c.1 (Array.mem_toList_iff.mp c.2))⟩
theorem chrs_val (x : S) : (chrs x).map (·.1) = x.1.cps.toList := by
  unfold chrs
  rw [List.map_map]
  exact List.attach_map_subtype_val _
theorem chrs_len (x : S) : (chrs x).length = x.1.cps.size := by
  have := congrArg List.length (chrs_val x)
  rwa [List.length_map, Array.length_toList] at this
theorem ti_str {Q : List D → Env2 → GD → Prop} (h : WE X e r G fun z r1 G1 => ∃ (x : S) (r2 : Env2), fz r1 z = some (eZ x, r2) ∧ Q ((chrs x).map eC) r2 G1) : WI X tg e r G Q := fun F0 T F H σ lk S =>
  RunI.of (pi_str peR) ((h F0 T F H σ lk S).mono fun v H1 ⟨z, r1, G1, F1, e1, S1, k1, x, r2, q1, q2⟩ => by
    obtain ⟨Fa, e2, Sa, rp⟩ := S1.fz k1 q1
    cases (show v = .str x.1 from rp)
    refine ⟨x.1, rfl, _, r2, G1, Fa, e1.trans e2, Sa, fun F H ea eh => ⟨?_, fun i d hi => ?_⟩, q2⟩
    · show x.1.cps.size ≤ ((chrs x).map eC).length
      rw [List.length_map, chrs_len]; exact Nat.le_refl _
    · rw [List.getElem?_map] at hi
      cases hc : (chrs x)[i]? with
      | none => rw [hc] at hi; cases hi
      | some c =>
        rw [hc] at hi; cases hi
        have hv : x.1.cps.toList[i]? = some c.1 := by rw [← chrs_val, List.getElem?_map, hc]; rfl
        rw [Array.getElem?_toList] at hv
        refine ⟨?_, fun y H' ⟨y1, c', y2, y3⟩ => .inl ⟨y1, ?_⟩⟩
        · show i < x.1.cps.size
          obtain ⟨h1, _⟩ := Array.getElem?_eq_some_iff.mp hv
          exact h1
        · rw [hv] at y2; cases y2
          exact y3)
theorem t_ninS {c : Chr} {x : S} {Q : Res → Prop} (q : Q (.sh (.bl (!decide (c ∈ chrs x))))) : OpW X (compareOp .NotIn) (eC c) (eZ x) Q := by
  have e : decide (c ∈ chrs x) = decide (c.1 ∈ x.1.cps.toList) := by
    rw [← chrs_val]
    congr 1
    simp only [List.mem_map, eq_iff_iff]
    exact ⟨fun h => ⟨c, h, rfl⟩, fun ⟨c', h, hc⟩ => by cases Subtype.ext hc; exact h⟩
  rw [e] at q
  refine opw_flat (d := .bl (!decide (c.1 ∈ x.1.cps.toList))) (v := .bl (!decide (c.1 ∈ x.1.cps.toList))) (fun _ _ => rfl) (fun F H va vb ex h1 h3 => ?_) q
  have e1 : va = .str ⟨#[c.1]⟩ := by
    rcases h1 with z | ⟨_, _, z⟩
    · exact z
    · exact z.elim
  have e2 : vb = .str x.1 := by
    rcases h3 with z | ⟨_, _, z⟩
    · exact z
    · exact z.elim
  subst e1 e2
  exact ⟨_, op_notIn_sign, fun P p => ⟨c.1, x.1, rfl, rfl, p⟩⟩
end
namespace RBS
open PySem PyProof.Rows SrtO Srt
theorem ltL_tri (a b : List Nat) (h1 : ¬ a < b) (h2 : ¬ b < a) : a = b := List.le_antisymm (List.not_lt.mp h2) (List.not_lt.mp h1)
theorem str_ext {x y : Str} (h : x.cps.toList = y.cps.toList) : x = y := by
  cases x; cases y
  congr
  exact Array.ext' h
def IsPairS (h : Heap) (v : Value) (x : Str) (y : Int) : Prop := ∃ a o t u n, v = .ref a ∧ h.get? a = some o ∧ o.cls = .type "tuple" ∧ o.data = .seq #[.str x t, .int y u] n
theorem IsPairS.keeps {h h' : Heap} {v : Value} {x : Str} {y : Int} (p : IsPairS h v x y) (k : ∀ b o, h.get? b = some o → o.cls = .type "tuple" → h'.get? b = some o) : IsPairS h' v x y := by
  obtain ⟨a, o, t, u, n, e, ho, hc, hd⟩ := p
  exact ⟨a, o, t, u, n, e, k _ _ ho hc, hc, hd⟩
end RBS
open Out (Rt)
open Out (Rt)
section
variable {X : Cy} {e a b c o tg kx vx elt i : Expr} {es ifs : List Expr} {st : Stmt} {sts rest body orelse : List Stmt} {r : Env2} {G : GD} {pos tpos apos cpos p0 : Pos} {D0 : EndsD} {α β γ σT ρ : Type}
def WPr (X : Cy) : List Expr → List Expr → Env2 → GD → (List (Key × D) → Env2 → GD → Prop) → Prop
  | k :: ks, v :: vs, r, G, Q => WE X k r G fun x r1 G1 => ∃ key, x = .sh (kD key) ∧ WE X v r1 G1 fun y r2 G2 => ∃ d r3, fz r2 y = some (d, r3) ∧ WPr X ks vs r3 G2 fun ps r4 G4 => Q ((key, d) :: ps) r4 G4
  | _, _, r, G, Q => Q [] r G
def prs (X : Cy) : List Expr → List Expr → List (TE × TE)
  | k :: ks, v :: vs => (Run X k, Run X v) :: prs X ks vs
  | _, _ => []
theorem prs_ok : ∀ (ks vs : List Expr), ks.length = vs.length → PPs X.toCx pos (ks.map some) vs (prs X ks vs)
  | [], [], _ => pps_nil
  | k :: ks, v :: vs, h => pps_cons peR peR (prs_ok ks vs (by simpa using h))
  | [], _ :: _, h => by simp at h
  | _ :: _, [], h => by simp at h
theorem prs_mono {σ : L2.St} : ∀ (ks vs : List Expr) {H : Hp} {Q Q' : List (V × V) → Hp → Prop}, tPairs (prs X ks vs) σ H Q → (∀ ps H', Q ps H' → Q' ps H') → tPairs (prs X ks vs) σ H Q'
  | [], [], _, _, _, h, k => k _ _ h
  | [], _ :: _, _, _, _, h, k => k _ _ h
  | _ :: _, [], _, _, _, h, k => k _ _ h
  | a :: ks, b :: vs, H, Q, Q', h, k => Run.mono (show Run X a σ H _ from h) fun _ _ h1 => Run.mono (show Run X b σ _ _ from h1) fun _ _ h2 => prs_mono ks vs h2 fun ps H' q => k _ H' q
theorem wpr_run : ∀ (ks vs : List Expr) (r : Env2) (G : GD) (Q : List (Key × D) → Env2 → GD → Prop) (F0 T F H : Hp) (σ : L2.St), ks.length = vs.length → Lk X F0 T → Sta X.K F0 T F G H r σ → WPr X ks vs r G Q →
    tPairs (prs X ks vs) σ H (fun ps H' => ∃ kvs us r' G' F', ps = us.map (fun kv : Key × V => (kV kv.1, kv.2)) ∧ us.length = ks.length ∧ DRep X.K F' kvs us ∧ Ex F F' ∧ Sta X.K F0 T F' G' H' r' σ ∧ Q kvs r' G')
  | [], [], r, G, Q, F0, T, F, H, σ, _, lk, S, h => ⟨[], [], r, G, F, rfl, rfl, rfl, Ex.refl _, S, h⟩
  | k :: ks, v :: vs, r, G, Q, F0, T, F, H, σ, hl, lk, S, h => by
    refine (h F0 T F H σ lk S).mono fun va H1 ⟨x, r1, G1, F1, e1, S1, k1, key, hx, h1⟩ => ?_
    subst hx
    cases (rep_kD k1)
    refine (h1 F0 T F1 H1 σ lk S1).mono fun vb H2 ⟨y, r2, G2, F2, e2, S2, k2, d, r3, q1, q2⟩ => ?_
    obtain ⟨F3, e3, S3, rp⟩ := S2.fz k2 q1
    have ih := wpr_run ks vs r3 G2 _ F0 T F3 H2 σ (by simpa using hl) lk S3 q2
    refine prs_mono ks vs ih fun ps H' ⟨kvs, us, r', G', F', z1, z0, z2, z3, z4, z5⟩ => ?_
    exact ⟨(key, d) :: kvs, (key, vb) :: us, r', G', F', by rw [z1]; rfl, by rw [List.length_cons, List.length_cons, z0], ⟨_, us, rfl, rfl, Rep.mono z3 _ _ rp, z2⟩, ((e1.trans e2).trans e3).trans z3, z4, z5⟩
  | [], _ :: _, _, _, _, _, _, _, _, _, h, _, _, _ => by simp at h
  | _ :: _, [], _, _, _, _, _, _, _, _, h, _, _, _ => by simp at h
theorem we_disp {ks vs : List Expr} {Q : Res → Env2 → GD → Prop} (h : WPr X ks vs r G fun kvs r1 G1 => Q (.fr (dicD (kvs.foldl (fun acc kv => putD acc kv.1 kv.2) []))) r1 G1) (hl : ks.length = vs.length := by rfl) (h0 : ks.map some ≠ [] := by simp) (h15 : (ks.map some).length ≤ 15 := by simp) (hall : (ks.map some).all (·.isSome) = true := by rfl) :
    WE X (.Dict (ks.map some) vs pos) r G Q := fun F0 T F H σ lk S => Run.of (pe_disp (prs_ok ks vs hl) hall (by rw [List.length_map]; exact hl) h0 h15) fun L hD => by
  obtain ⟨f1, f2, f3⟩ := S.bas.freshF hD
  have f0 : F0 L = none := by
    cases e : F0 L with
    | none => rfl
    | some u => rw [S.bas.ff L u e] at f1; cases f1
  refine prs_mono ks vs (wpr_run ks vs r G _ F0 _ F _ σ hl (lk.ext (Ex.new f3)) (S.tbegin hD (.dK []) f0) h) fun ps H' ⟨kvs, us, r', G', F', z1, z0, z2, z3, z4, z5⟩ => ?_
  obtain ⟨t1, t2, t3⟩ := z4.tF f0
  have hlen : us.length ≤ 15 := by rw [z0]; rwa [List.length_map] at h15
  refine ⟨t3, us, z1, hlen, ?_⟩
  obtain ⟨Sc, ow⟩ := (z4.tput f0 (.dK (mergeK [] us))).tend f0 f3
  exact ⟨.fr (dicD _), r', G', F', z3, Sc, ⟨L, rfl, own_dicD (DRep.fold (acc := []) (ws := []) rfl z2) upd_same, t1, t2, f3, ow⟩, z5⟩
theorem we_disp1 {k v : Expr} {Q : Res → Env2 → GD → Prop} (h : WPr X [k] [v] r G fun kvs r1 G1 => Q (.fr (dicD (kvs.foldl (fun acc kv => putD acc kv.1 kv.2) []))) r1 G1) : WE X (.Dict [some k] [v] pos) r G Q := we_disp (ks := [k]) (vs := [v]) h
theorem disp_of {κ ν : Type} [DecidableEq κ] {k : κ → Key} {f : ν → D} (hk : KInj k) (kvs : List (κ × ν)) {P : D → Prop} (q : P (eD k f (dmk kvs))) : P (dicD ((eDl k f kvs).foldl (fun acc kv => putD acc kv.1 kv.2) [])) := by
  have e2 := fold_putD (f := f) hk kvs []
  rw [show eDl k f [] = [] from rfl] at e2
  rw [e2, eD_dicD]
  exact q
def rDEq0 : R2 := fun x y H Q => ∃ a b ks, x = .ref a ∧ y = .ref b ∧ Rd H a (.dK ks) ∧ Rd H b (.dK []) ∧ Q (.bl ks.isEmpty) H
theorem op_deq0 {X : Cx} (hu : X.A.units < cLine) : OpR X (compareOp .Eq) rDEq0 := by
  intro pins s σ H x y v u Q I rx ry h
  obtain ⟨a, b, ks, rfl, rfl, ea, eb, q⟩ := h
  obtain rfl : v = Value.ref a := rx
  obtain rfl : u = Value.ref b := ry
  obtain ⟨za, ya, va, ra, da⟩ := dk_rd I.hok ea
  obtain ⟨zb, yb, vb, rb, db⟩ := dk_rd I.hok eb
  have hb : vb = [] := by have := rb.length; cases vb with | nil => rfl | cons => simp at this
  subst hb
  have hl := ra.length
  refine PySem.W.keq_eq (knd := mixKind X.prog X.w) (r := true) ya yb da db hu (fun e => ?_) (fin_bl I q ?_)
  · have : va = [] := List.length_eq_zero_iff.mp e
    subst this
    exact .nil
  · cases ks with
    | nil => have : va = [] := List.length_eq_zero_iff.mp hl.symm; subst this; rfl
    | cons p ks => cases va with
      | nil => simp at hl
      | cons => rfl
theorem t_deq0 {κ ν : Type} {k : κ → Key} {f : ν → D} (hu : X.A.units + 64 < cLine) (kvs : List (κ × ν)) {Q : Res → Prop} (q : Q (.sh (.bl kvs.isEmpty))) : OpW X (compareOp .Eq) (eD k f kvs) (.dic [] []) Q := by
  refine opw_flat (d := .bl kvs.isEmpty) (v := .bl kvs.isEmpty) (fun _ _ => rfl) (fun F H va vb ex h1 h3 => ?_) q
  obtain ⟨p, us, rfl, k1, k2⟩ := h1.dics ex
  obtain ⟨p2, us2, rfl, k3, k4⟩ := h3.dics ex
  cases (show us2 = [] from k4)
  refine ⟨_, op_deq0 (by omega), fun P hp => ⟨p, p2, us, rfl, rfl, k1, k3, ?_⟩⟩
  have : us.isEmpty = kvs.isEmpty := by
    have := k2.length
    rw [zip_eDl] at this
    unfold eDl at this
    rw [List.length_map] at this
    cases us with
    | nil => cases kvs with
      | nil => rfl
      | cons => simp at this
    | cons => cases kvs with
      | nil => simp at this
      | cons => rfl
  rw [this]; exact hp
theorem rising_chain : ∀ (ys : List Str) (p : Str), risingS p ys = true → (p :: ys).Pairwise fun a b => ¬ b.cps.toList < a.cps.toList
  | [], p, _ => by simp
  | y :: ys, p, h => by
    unfold risingS at h
    rw [Bool.and_eq_true] at h
    have ih := rising_chain ys y h.2
    have h1 : ¬ y.cps.toList < p.cps.toList := by
      intro z
      have : ltCps y.cps.toList p.cps.toList = true := by
        rw [ltCps_eq]; exact decide_eq_true z
      rw [this] at h; simp at h
    refine List.pairwise_cons.mpr ⟨fun b hb => ?_, ih⟩
    rcases List.mem_cons.mp hb with e | e
    · subst e; exact h1
    · intro z
      have h2 := (List.pairwise_cons.mp ih).1 b e
      exact h2 (by
        by_cases h3 : b.cps.toList < y.cps.toList
        · exact h3
        · by_cases h4 : y.cps.toList < b.cps.toList
          · exact absurd (List.lt_trans h4 z) h1
          · rw [RBS.ltL_tri _ _ h3 h4] at z; exact absurd z h1)
theorem sortedS_chain : ∀ (ys : List Str), sortedS ys = true → ys.Pairwise fun a b => ¬ b.cps.toList < a.cps.toList
  | [], _ => List.Pairwise.nil
  | y :: ys, h => rising_chain ys y h
theorem leS_trans (a b c : S) (h1 : leS a b = true) (h2 : leS b c = true) : leS a c = true := by
  unfold leS at *
  rw [decide_eq_true_eq] at *
  exact List.le_trans h1 h2
theorem leS_total (a b : S) : (leS a b || leS b a) = true := by
  unfold leS
  rw [Bool.or_eq_true, decide_eq_true_eq, decide_eq_true_eq]
  exact List.le_total _ _
theorem ssort_perm (xs : List S) : (ssort xs).Perm xs := List.mergeSort_perm _ _
theorem ssort_sorted (xs : List S) : (ssort xs).Pairwise fun a b => leS a b = true := List.pairwise_mergeSort leS_trans leS_total xs
theorem strs_rep {K : PySem.W.Frag} {F : Hp} : ∀ (xs : List S), RepL K F (xs.map eZ) ((xs.map (·.1)).map V.str)
  | [] => rfl
  | x :: xs => ⟨_, _, rfl, rfl, strs_rep xs⟩
/-- sorted(d), the keys texts -/
theorem t_sortedDS {ν : Type} {f : ν → D} (kvs : List (S × ν)) (hcalm : X.calm = true) (h64 : kvs.length < 64) {Q : Res → Prop} (q : Q (.fr (.lst ((ssort (kvs.map (·.1))).map eZ)))) : CallW1 X (.builtin "sorted") (eD kZ f kvs) Q := fun F0 T F G H r σ v S hv => by
  obtain ⟨p, us, rfl, h1, h2⟩ := hv.dics S.bas.fh
  refine ⟨_, call_sortedD hcalm, p, us, (kvs.map (·.1)).map (·.1), rfl, h1, ?_, by rw [List.length_map, List.length_map]; exact h64, fun ys l hp hs hl => ?_⟩
  · have := h2.keys
    rw [zip_eDl] at this
    rw [this]
    unfold eDl
    rw [List.map_map, List.map_map, List.map_map]; rfl
  · have e : ys = (ssort (kvs.map (·.1))).map (·.1) := by
      refine List.Perm.eq_of_pairwise (le := fun a b : Str => ¬ b.cps.toList < a.cps.toList) (fun a b _ _ h h' => RBS.str_ext (RBS.ltL_tri _ _ h' h)) (sortedS_chain ys hs) ?_ (hp.trans ((ssort_perm _).map _).symm)
      exact List.pairwise_map.mpr ((ssort_sorted _).imp fun {a b} h => by
        unfold leS at h
        rw [decide_eq_true_eq] at h
        exact List.not_lt.mpr h)
    subst e
    exact new_lst S (strs_rep _) hl q
end
theorem kt_int_bool {K : PySem.W.Frag} : PySem.W.kitOne K (.type "int") (.type "bool") = some false := kit_ty (by decide +kernel)
theorem kt_int_int {K : PySem.W.Frag} : PySem.W.kitOne K (.type "int") (.type "int") = some true := kit_ty (by decide +kernel)
theorem kt_str_str {K : PySem.W.Frag} : PySem.W.kitOne K (.type "str") (.type "str") = some true := kit_ty (by decide +kernel)
/-- the value of an assignment -/
def asgV : Stmt → Expr
  | .Assign _ v _ => v
  | _ => .Constant .none 0 ⟨0, 0, 0, 0⟩
open Out (Rt)
section
variable {X : Cy} {e a b c o tg kx vx elt i : Expr} {es ifs : List Expr} {st : Stmt} {sts rest body orelse : List Stmt} {r : Env2} {G : GD} {pos tpos apos cpos p0 : Pos} {D0 : EndsD} {α β γ σT ρ : Type}
theorem we_ifN (en : α → D) {Q : Res → Env2 → GD → Prop}
    (h : WT X c r G fun d r1 G1 => ∃ (β : Type) (ma mb : Out α) (f : α → Out β) (Q0 : β → Prop) (E : Xm → Prop), ((if d = true then ma else mb).bind f).sat Q0 E ∧ (d = true → ∀ Q' : α → Prop, ma.sat Q' E → WE X a r1 G1 fun x r2 G2 => ∃ v, x = .sh (en v) ∧ r2 = r1 ∧ G2 = G1 ∧ Q' v) ∧
      (d = false → ∀ Q' : α → Prop, mb.sat Q' E → WE X b r1 G1 fun x r2 G2 => ∃ v, x = .sh (en v) ∧ r2 = r1 ∧ G2 = G1 ∧ Q' v) ∧ ∀ v, (f v).sat Q0 E → Q (.sh (en v)) r1 G1) : WE X (.IfExp c a b pos) r G Q :=
  we_ifExp (h.mono fun d r1 G1 ⟨β, ma, mb, f, Q0, E, h0, h1, h2, q⟩ => ⟨fun hd => by
    rw [if_pos hd] at h0
    exact (h1 hd _ (Out.sb h0)).mono fun x r2 G2 ⟨v, m1, m2, m3, m4⟩ => by subst m1 m2 m3; exact q v m4, fun hd => by
    rw [if_neg (by rw [hd]; exact Bool.false_ne_true)] at h0
    exact (h2 hd _ (Out.sb h0)).mono fun x r2 G2 ⟨v, m1, m2, m3, m4⟩ => by subst m1 m2 m3; exact q v m4⟩)
theorem ww_andN {Q : Bool → Env2 → GD → Prop} (h : WT X a r G fun c1 r1 G1 => ∃ (β : Type) (m : Out Bool) (f : Bool → Out β) (Q0 : β → Prop) (E : Xm → Prop), ((if c1 = true then m else .ok false).bind f).sat Q0 E ∧ (c1 = true → ∀ Q' : Bool → Prop, m.sat Q' E → WW X (.BoolOp .And (b :: es) pos) r1 G1 fun d r2 G2 => r2 = r1 ∧ G2 = G1 ∧ Q' d) ∧ ∀ v, (f v).sat Q0 E → Q v r1 G1) : WW X (.BoolOp .And (a :: b :: es) pos) r G Q :=
  ww_and (h.mono fun c1 r1 G1 ⟨β, m, f, Q0, E, h0, h1, q⟩ => ⟨fun hc => by
    rw [if_pos hc] at h0
    exact (h1 hc _ (Out.sb h0)).monoT fun d r2 G2 ⟨m2, m3, m4⟩ => by subst m2 m3; exact q d m4, fun hc => by
    rw [if_neg (by rw [hc]; exact Bool.false_ne_true)] at h0
    exact q false h0⟩)
theorem ww_orN {Q : Bool → Env2 → GD → Prop} (h : WT X a r G fun c1 r1 G1 => ∃ (β : Type) (m : Out Bool) (f : Bool → Out β) (Q0 : β → Prop) (E : Xm → Prop), ((if c1 = true then .ok true else m).bind f).sat Q0 E ∧ (c1 = false → ∀ Q' : Bool → Prop, m.sat Q' E → WW X (.BoolOp .Or (b :: es) pos) r1 G1 fun d r2 G2 => r2 = r1 ∧ G2 = G1 ∧ Q' d) ∧ ∀ v, (f v).sat Q0 E → Q v r1 G1) : WW X (.BoolOp .Or (a :: b :: es) pos) r G Q :=
  ww_or (h.mono fun c1 r1 G1 ⟨β, m, f, Q0, E, h0, h1, q⟩ => ⟨fun hc => by
    rw [if_neg (by rw [hc]; exact Bool.false_ne_true)] at h0
    exact (h1 hc _ (Out.sb h0)).monoT fun d r2 G2 ⟨m2, m3, m4⟩ => by subst m2 m3; exact q d m4, fun hc => by
    rw [if_pos hc] at h0
    exact q true h0⟩)
/-- {k: v for tg in e}, by a mirror with a state -/
theorem we_dcS {κ ν : Type} [DecidableEq κ] {scope : Scope} (own : List (Str × Nat)) (R : Env2) (gg : σT → GD) {en : α → D} (ek : κ → Key) (ev : ν → D) (hk : KInj ek) {Q : Res → Env2 → GD → Prop} (hc : X.calm = true) (hN : X.N.Nodup) (ok : BlkOk X.N X.env.scope scope own)
    (h : WI X tg e r G fun ds r2 G1 => ∃ (γ : Type) (xs : List α) (s0 : σT) (f : σT → α → Out (Option (κ × ν) × σT)) (kk : List (κ × ν) × σT → Out γ) (Q0 : γ → Prop) (E : Xm → Prop), ds = xs.map en ∧ xs.length ≤ LIM ∧ Wk (wipeD r2 (own.map (·.2))) R ∧ G1 = gg s0 ∧ ((Out.compS f xs [] s0).bind kk).sat Q0 E ∧
      (∀ s x (Q' : Option (κ × ν) × σT → Prop), (f s x).sat Q' E → Blk X scope fun Y => WG Y tg (en x) R (gg s) (own.map (·.2)) fun r3 G3 => match ifs with
        | [] => Blk X scope fun Y => WE Y kx r3 G3 fun z r4 G4 => ∃ k, z = .sh (kD (ek k)) ∧ Blk X scope fun Y => WE Y vx r4 G4 fun z r5 G5 => ∃ y s' r6, fz r5 z = some (ev y, r6) ∧ Wk (wipeD r6 (own.map (·.2))) R ∧ G5 = gg s' ∧ Q' (some (k, y), s')
        | [c] => Blk X scope fun Y => WT Y c r3 G3 fun b r4 G4 => (b = true → Blk X scope fun Y => WE Y kx r4 G4 fun z r5 G5 => ∃ k, z = .sh (kD (ek k)) ∧ Blk X scope fun Y => WE Y vx r5 G5 fun z r6 G6 => ∃ y s' r7, fz r6 z = some (ev y, r7) ∧ Wk (wipeD r7 (own.map (·.2))) R ∧ G6 = gg s' ∧ Q' (some (k, y), s')) ∧ (b = false → ∃ s', Wk (wipeD r4 (own.map (·.2))) R ∧ G4 = gg s' ∧ Q' (none, s'))
        | _ => False) ∧ ∀ p : List (κ × ν) × σT, (kk p).sat Q0 E → Q (.fr (eD ek ev (dmk p.1))) R (gg p.2))
    (hs : ∀ x, foldedSetIterable e X.env x = pure x := by intro _; rfl) : WE X (.DictComp kx vx [⟨tg, e, ifs, 0⟩] scope pos) r G Q :=
  WE.wkp (we_dc own hc hN ok (h.mono fun ds r2 G1 ⟨γ, xs, s0, f, kk, Q0, E, hd, hl, w, hg, h0, hb, hq⟩ => by
    subst hd hg
    refine ⟨fun k acc r3 G3 => ∃ ys s, Wk r3 R ∧ G3 = gg s ∧ acc = eDl ek ev (dmk ys) ∧ ys.length ≤ k ∧ ((Out.compS f (xs.drop k) ys s).bind kk).sat Q0 E, ⟨[], s0, w, rfl, rfl, Nat.le_refl _, h0⟩, fun k d acc r3 G3 hd ⟨ys, s, w3, hG, ha, hly, hq3⟩ => ?_, fun acc r3 G3 ⟨ys, s, w3, hG, ha, hly, hq3⟩ => ?_⟩
    · subst hG ha
      obtain ⟨x, hx, rfl⟩ := map_at hd
      have hlt : k < xs.length := (List.getElem?_eq_some_iff.mp hx).1
      rw [drop_at hx] at hq3
      have st := hb s x _ (compS_step hq3)
      have lim : (eDl ek ev (dmk ys)).length < LIM := by
        unfold eDl
        rw [List.length_map]
        have := dmk_len ys
        omega
      have snoc : ∀ (k : κ) (y : ν), putD (eDl ek ev (dmk ys)) (ek k) (ev y) = eDl ek ev (dmk (ys ++ [(k, y)])) := fun k y => by rw [putD_eDl hk, dmk_snoc]
      intro Y hY
      refine WG.mono (WG.weak w3 (st Y hY)) fun r4 G4 q' => ?_
      match ifs, q' with
      | [], q' =>
        refine fun Y hY => (q' Y hY).mono fun zz r5 G5 ⟨key, hz, q2⟩ => ⟨ek key, hz, fun Y hY => (q2 Y hY).mono fun zz r6 G6 ⟨y, s', r7, m1, m2, m3, m4⟩ => ⟨ev y, r7, m1, lim, ys ++ [(key, y)], s', m2, m3, snoc key y, by rw [List.length_append]; exact Nat.succ_le_succ hly, m4⟩⟩
      | [c], q' =>
        refine fun Y hY => (q' Y hY).mono fun b r5 G5 ⟨q1, q2⟩ => ⟨fun hb1 Y hY => ?_, fun hb0 => ?_⟩
        · exact (q1 hb1 Y hY).mono fun zz r6 G6 ⟨key, hz, q3⟩ => ⟨ek key, hz, fun Y hY => (q3 Y hY).mono fun zz r7 G7 ⟨y, s', r8, m1, m2, m3, m4⟩ => ⟨ev y, r8, m1, lim, ys ++ [(key, y)], s', m2, m3, snoc key y, by rw [List.length_append]; exact Nat.succ_le_succ hly, m4⟩⟩
        · obtain ⟨s', m2, m3, m4⟩ := q2 hb0
          exact ⟨ys, s', m2, m3, rfl, Nat.le_succ_of_le hly, m4⟩
      | _ :: _ :: _, q' => exact q'.elim
    · subst hG ha
      rw [List.length_map, List.drop_length] at hq3
      rw [eD_dicD]
      exact ⟨R, w3, (fun i z => by cases z), hq (ys, s) hq3⟩) hs)
end
open Out (Rt)
section
variable {prog : Program} {w : World} {A : Around} {E : Value → Shared → Prop} {s : Shared}
theorem nextOf_key_item {it d : Addr} {i n ep : Nat} {od : Obj} {es : Array DictEntry} {en : DictEntry} {Q : Value → Shared → Prop} (hit : s.heap.IsKeyIter it d i n ep) (hod : s.heap.get? d = some od) (hdd : od.data = .dict es ep)
    (hsz : es.size = n) (hx : es[i]? = some en) (hQ : ∀ h', h'.IsKeyIter it d (i + 1) n ep → Heap.SameBut it s.heap h' → Q en.key { s with heap := h' }) : wpAny (model prog w) A (Builtin.SmallTypes.nextOf (.ref it)) Q E s := by
  obtain ⟨o, ho, hc, hd⟩ := id hit
  unfold Builtin.SmallTypes.nextOf
  refine wpAny_bind (wpAny_callSpecial?_slot (name := Str.ofString "__next__") hit.typeIs F.slot_dict_keyiterator_next
    (wpAny_call_entry F.slot_dict_keyiterator_next hit.typeIs F.entry_dict_keyiterator_next ?_ (F.args_dict_keyiterator_next_1 _)))
  refine wpAny_bind (wpAny_pure ?_)
  refine wpAny_bind ?_
  refine wpAny_bind ?_
  first | refine wpAny_bind (wpAny_typeNameOfWhole_keyiter hit.typeIs (wpAny_pure ?_)) | refine wpAny_bind (wpAny_typeNameOf_keyiter hit.typeIs (wpAny_pure ?_))
  refine wpAny_bind (wpAny_fieldsOf ho hd ?_)
  have hown : Builtin.Dict_items.ownsTuple "dict_keyiterator" = false := by decide
  simp only [hown, Bool.false_eq_true, if_false]
  show wpAny _ _ (if (Value.ref d == Value.none) = true then _ else _) _ _ s
  rw [if_neg (show ¬ ((Value.ref d == Value.none) = true) from Bool.false_ne_true)]
  refine wpAny_bind (wpAny_pure ?_)
  refine wpAny_bind (wpAny_dictEntries hod hdd ?_)
  rw [if_neg (by rw [hsz]; simp)]
  refine wpAny_bind (wpAny_pure ?_)
  refine wpAny_bind (wpAny_dictEpoch hod hdd ?_)
  rw [if_neg (by simp)]
  refine wpAny_pure ?_
  obtain ⟨hlt', hen⟩ := Array.getElem?_eq_some_iff.mp hx
  simp only [show ¬ ((i : Int) < 0) from by omega, if_false, Int.toNat_natCast, Array.getElem?_eq_getElem hlt']
  refine wpAny_bind ?_
  first | refine wpAny_bind (wpAny_typeNameOfWhole_keyiter hit.typeIs (wpAny_pure ?_)) | refine wpAny_bind (wpAny_typeNameOf_keyiter hit.typeIs (wpAny_pure ?_))
  refine wpAny_bind (wpAny_isOneOf_keyiter hit.typeIs ?_)
  show wpAny _ _ (setField (.ref it) 1 (rawInt ((i : Int) + 1)) >>= _) _ _ s
  refine wpAny_bind (wpAny_setField ho hd (by simp) ?_)
  have hit' : (s.heap.update it (Obj.mapFields (·.setIfInBounds 1 (rawInt ((i : Int) + 1))))).IsKeyIter it d (i + 1) n ep :=
    ⟨_, Heap.get?_update_self _ ho (Obj.isFreed_of_fields (Obj.data_mapFields hd _)), (Obj.cls_mapFields ..).trans hc, by rw [Obj.data_mapFields hd]; simp [rawInt]⟩
  refine wpAny_bind (wpAny_holding ?_)
  refine wpAny_bind (wpAny_isOneOf_keyiter (s := { s with heap := s.heap.update it (Obj.mapFields (·.setIfInBounds 1 (rawInt ((i : Int) + 1)))) }) hit'.typeIs ?_)
  show wpAny _ _ (pure es[i].key) _ _ _
  rw [hen]
  exact wpAny_pure (wpAny_pure ⟨_, rfl, wpAny_pure (hQ _ hit' (Heap.SameBut.update ..))⟩)
theorem nextOf_key_end {it d : Addr} {i n ep : Nat} {od : Obj} {es : Array DictEntry} {Q : Value → Shared → Prop} (hh : A.handled = none) (hit : s.heap.IsKeyIter it d i n ep) (hod : s.heap.get? d = some od) (hdd : od.data = .dict es ep)
    (hsz : es.size = n) (hge : n ≤ i) (hE : ∀ h' e, Heap.ExtBut it s.heap h' → (∃ o, h'.get? e = some o ∧ o.cls = .type "StopIteration") → E (.ref e) { s with heap := h' }) : wpAny (model prog w) A (Builtin.SmallTypes.nextOf (.ref it)) Q E s := by
  obtain ⟨o, ho, hc, hd⟩ := id hit
  unfold Builtin.SmallTypes.nextOf
  refine wpAny_bind (wpAny_callSpecial?_slot (name := Str.ofString "__next__") hit.typeIs F.slot_dict_keyiterator_next
    (wpAny_call_entry F.slot_dict_keyiterator_next hit.typeIs F.entry_dict_keyiterator_next ?_ (F.args_dict_keyiterator_next_1 _)))
  refine wpAny_bind (wpAny_pure ?_)
  refine wpAny_bind ?_
  refine wpAny_bind ?_
  first | refine wpAny_bind (wpAny_typeNameOfWhole_keyiter hit.typeIs (wpAny_pure ?_)) | refine wpAny_bind (wpAny_typeNameOf_keyiter hit.typeIs (wpAny_pure ?_))
  refine wpAny_bind (wpAny_fieldsOf ho hd ?_)
  have hown : Builtin.Dict_items.ownsTuple "dict_keyiterator" = false := by decide
  simp only [hown, Bool.false_eq_true, if_false]
  show wpAny _ _ (if (Value.ref d == Value.none) = true then _ else _) _ _ s
  rw [if_neg (show ¬ ((Value.ref d == Value.none) = true) from Bool.false_ne_true)]
  refine wpAny_bind (wpAny_pure ?_)
  refine wpAny_bind (wpAny_dictEntries hod hdd ?_)
  rw [if_neg (by rw [hsz]; simp)]
  refine wpAny_bind (wpAny_pure ?_)
  refine wpAny_bind (wpAny_dictEpoch hod hdd ?_)
  rw [if_neg (by simp)]
  refine wpAny_pure ?_
  have hge' : es.size ≤ i := by rw [hsz]; exact hge
  simp only [show ¬ ((i : Int) < 0) from by omega, if_false, Int.toNat_natCast, Array.getElem?_eq_none hge']
  refine wpAny_bind ?_
  first | refine wpAny_bind (wpAny_typeNameOfWhole_keyiter hit.typeIs (wpAny_pure ?_)) | refine wpAny_bind (wpAny_typeNameOf_keyiter hit.typeIs (wpAny_pure ?_))
  show wpAny _ _ (setField (.ref it) 0 .none >>= _) _ _ s
  refine wpAny_bind (wpAny_setField ho hd (by simp) ?_)
  show wpAny _ _ (newExc (.type "StopIteration") [] >>= _) _ _ _
  refine wpAny_bind ?_
  simp only [newExc, newTuple]
  refine wpAny_bind (wpAny_newObj_type ?_ (by size_fits))
  refine wpAny_bind (m := firstArgMember _ _) (wpAny_of_eq (a := Value.none) (by first | rfl | (simp only [firstArgMember]; rfl)) ?_)
  refine wpAny_newObj_type ?_ (by size_fits)
  simp only [raiseNew]
  refine wpAny_bind (wpAny_handled ?_)
  rw [show A.in1.handled = none from hh]
  refine wpAny_bind (wpAny_pure (wpAny_throw ?_))
  exact hE _ _ (((Heap.SameBut.update ..).extBut.push _).push _) ⟨_, Heap.get?_push_size _ rfl, rfl⟩
theorem drawsK (hh : A.handled = none) (it d : Addr) (hne : d ≠ it) (od : Obj) (es : Array DictEntry) (ep : Nat) (hdd : od.data = .dict es ep) :
    Draws prog w A it [it, d] es.size (fun i v => ∃ en, es[i]? = some en ∧ v = en.key) (fun i h => h.IsKeyIter it d i es.size ep ∧ h.get? d = some od) where
  live := fun _ _ st => let ⟨o, ho, _⟩ := st.1; ⟨o, ho⟩
  frame := fun _ _ _ st hk => ⟨st.1.at fun o e => hk it (by simp) o e, hk d (by simp) od st.2⟩
  item := fun i s Q E hi st hQ => by
    refine nextOf_key_item st.1 st.2 hdd rfl (en := es[i]) (by simp [hi]) fun h' hit' hs' => ?_
    exact hQ _ h' s.toks ⟨_, by simp [hi], rfl⟩ ⟨hit', (hs'.2 d hne).trans st.2⟩ hs'
  done := fun s Q E st hE => nextOf_key_end hh st.1 st.2 hdd rfl (Nat.le_refl _) hE
abbrev kIt (d : Addr) (n ep : Nat) : Obj := { cls := .type "dict_keyiterator", data := .fields #[.ref d, .int 0 0, .int n 0, .int ep 0] }
theorem meets_enumK (d : Addr) (o : Obj) (es : Array DictEntry) (ep : Nat) (hd : (d == sysModules) = false) (hc : o.ExactDict) (hdat : o.data = .dict es ep) :
    Meets (Builtin.«enumerate.__new__» ⟨[.type "enumerate", .ref d], []⟩) (fun _ R s => s.heap.get? d = some o ∧
      R (.ok (.ret (.ref (s.heap.push (kIt d es.size ep)).objs.size))) { s with heap := (s.heap.push (kIt d es.size ep)).push (enO s.heap.objs.size) }) :=
  .of_wp fun prog w A R s h => by
    obtain ⟨c, dc, dt, sl⟩ := o
    obtain ⟨h1, h2⟩ := id hc
    cases h1
    obtain ⟨hp, g, dg, tk, os⟩ := s; obtain ⟨hl, h⟩ := h
    have sub := sub_enumerate
    wp_walk using AutoSeq1.wpAny_loadPart' hl
    refine wpAny_stack_any fun st => wpAny_pure ?_
    split
    · rename_i c _ _ _ _ _
      cases (c == Value.type "enumerate")
      all_goals
        wp_walk using AutoSeq1.wpAny_loadPart' hl, iter_keys hd hl hc hdat
        exact ⟨_, rfl, h⟩
    · wp_walk using AutoSeq1.wpAny_loadPart' hl, iter_keys hd hl hc hdat
      exact ⟨_, rfl, h⟩
theorem callEnumK {d : Addr} {o : Obj} {es : Array DictEntry} {ep : Nat} {Q : Value → Shared → Prop} (hd : (d == sysModules) = false) (ho : s.heap.get? d = some o) (hc : o.ExactDict) (hdat : o.data = .dict es ep)
    (h : ∀ h', IsEnum h' (s.heap.objs.size + 1) s.heap.objs.size 0 .none → h'.IsKeyIter s.heap.objs.size d 0 es.size ep → (∀ b o, s.heap.get? b = some o → h'.get? b = some o) → Q (.ref (s.heap.objs.size + 1)) { s with heap := h' }) :
    wpAny (model prog w) A (call (.type "enumerate") [.ref d]) Q E s := by
  refine callType_new F.called_enumerate (by decide) (F.typeCall_enumerate_1 _) (F.newCall_enumerate_1 _) (fun obj => F.args_object_init_2 obj _) F.entry_enumerate_new (meets_enumK d o es ep hd hc hdat) ⟨ho, ?_⟩
  have z : (s.heap.push (kIt d es.size ep)).objs.size = s.heap.objs.size + 1 := Heap.size_push ..
  show _ ∧ _
  rw [z]
  have he : IsEnum ((s.heap.push (kIt d es.size ep)).push (enO s.heap.objs.size)) (s.heap.objs.size + 1) s.heap.objs.size 0 .none := by
    have q := Heap.get?_push_size (s.heap.push (kIt d es.size ep)) (o := enO s.heap.objs.size) rfl
    rw [z] at q
    exact q
  exact ⟨⟨_, he, rfl⟩, h _ he ⟨_, Heap.get?_push_of_some _ (Heap.get?_push_size _ rfl), rfl, rfl⟩ fun b o x => Heap.get?_push_of_some _ (Heap.get?_push_of_some _ x)⟩
end
/-- the keys of the locked dict d, each in a new pair -/
def ItK2 (d : Addr) (o : Obj) (kvs : List (Key × V)) : It :=
  ⟨fun i H => H d = some (.frz o (.dK kvs)) ∧ i < kvs.length, fun i H v H' => ∃ T k x, v = .ref T ∧ H T = none ∧ H' = upd H T (.tup [.int (i : Nat), kV k]) ∧ kvs[i]? = some (k, x), fun i H => H d = some (.frz o (.dK kvs)) ∧ kvs.length = i⟩
theorem turn_enumK {P : Program} {w : World} {K : PySem.W.Frag} {elts : List Expr} {kk : Nat} {tpos : Pos} (d e it : Addr) (o : Obj) (es : Array DictEntry) (ep : Nat) (kvs : List (Key × V)) (hod : o.data = .dict es ep) (hde : d ≠ e) (hdi : d ≠ it) (hsz0 : es.size = kvs.length) :
    Turn P w K (.Tuple elts kk tpos) (ItK2 d o kvs) [e, it] e (fun i h => (∃ old, IsEnum h e it ((i : Nat) : Int) old) ∧ h.IsKeyIter it d i es.size ep ∧ e ≠ it) where
  mem := by simp
  obj := fun i h st b hb => by
    obtain ⟨⟨old, he⟩, ⟨o, ho, hc, hd⟩, _⟩ := st
    rcases (by simpa using hb : b = e ∨ b = it) with z | z
    · rw [z]; exact ⟨_, he, fun v q => nomatch q⟩
    · rw [z]; exact ⟨o, ho, fun v q => by rw [hd] at q; cases q⟩
  keep := fun i h h' ⟨⟨old, he⟩, hi, hne⟩ k => ⟨⟨old, k e (by simp) _ he⟩, hi.at fun o q => k it (by simp) o q, hne⟩
  item := by
    intro X hP hw hK hc i pins s σ H E I hf st hg
    subst hP hw hK
    obtain ⟨⟨old, he⟩, hit, hne⟩ := st
    obtain ⟨hd, hi⟩ := hg
    obtain ⟨hs, hgd, hx, es', ep', vs, hdt, hsz, kv, hm⟩ := I.frzK hd
    obtain ⟨rfl, rfl⟩ := dict_ep hod hdt
    obtain ⟨⟨k, v⟩, hkv⟩ : ∃ p, kvs[i]? = some p := ⟨kvs[i], List.getElem?_eq_getElem hi⟩
    obtain ⟨u, hu, ru⟩ := kv_get kv hkv
    have hel : e < s.heap.objs.size := Heap.lt_size he
    have hil : it < s.heap.objs.size := by obtain ⟨_, q, _⟩ := hit; exact Heap.lt_size q
    have dr := drawsK (prog := X.prog) (w := X.w) (A := X.A.in1) (I.ok.hd hc) it d hdi o es' ep' hod
    refine wpAny_pyNext_enum_itemD dr he ⟨hit, hgd⟩ (by rw [hsz]; exact hi) hne (by simp [hne, hde.symm]) fun x' h' tk ⟨en, hen, hx'⟩ ho hit' hT hsz' hk => ?_
    have rk : RelV (kV k) x' := by
      obtain ⟨od, es2, hod2, _, hdd2, _, hp, _⟩ := id hm
      rw [hgd] at hod2; cases hod2
      rw [hod] at hdd2; cases hdd2
      rw [hx']
      exact relV_key (show keyIs k en.key = true from (hp.get? (by rw [Array.getElem?_toList]; exact hen) hu).1)
    refine ⟨_, rfl, wpAny_letOwnedTupleGo_enum (s := { s with heap := h', toks := tk + 1 }) ho fun h'' he' sb => ?_⟩
    have hT2 : h''.get? s.heap.objs.size = some { cls := .type "tuple", data := .seq #[.int i tk, x'] } := (sb.2 _ (Nat.ne_of_gt hel)).trans hT
    have new : ObjOk X.prog X.w (upd H s.heap.objs.size (.tup [.int (i : Nat), kV k])) h'' s.heap.objs.size (.tup [.int (i : Nat), kV k]) :=
      ⟨by show 2 ≤ sizeLine; decide, [.int i tk, x'], .cons ⟨_, rfl⟩ (.cons rk .nil), ⟨_, hT2, rfl, _, rfl⟩⟩
    have I1 : Inv X pins σ (upd H s.heap.objs.size (.tup [.int (i : Nat), kV k])) { s with heap := h'', toks := tk + 1 } :=
      I.turnedNew (ch := [e, it]) (fun b ob hb q => (sb.2 b (fun z => hb (by simp [z]))).trans (hk b ob (fun z => hb (by simp [z])) (fun z => hb (by simp [z])) q)) hf (Nat.le_refl _) new
    refine ⟨.ref s.heap.objs.size, _, I1, rfl, ⟨_, k, v, rfl, I.hok.fresh (Nat.le_refl _), rfl, hkv⟩, ⟨⟨x', he'⟩, hit'.1.at fun o q => (sb.2 it (Ne.symm hne)).trans q, hne⟩, fun b hb => ?_⟩
    have hb' : b < s.heap.objs.size := by
      rcases (by simpa using hb : b = e ∨ b = it) with z | z
      · rw [z]; exact hel
      · rw [z]; exact hil
    rw [upd_ne (Nat.ne_of_lt hb')]
    exact (hf b hb).1
  done := by
    intro X hP hw hK hc i pins s σ H E I hf st hg
    subst hP hw hK
    obtain ⟨⟨old, he⟩, hit, hne⟩ := st
    obtain ⟨hd, hx⟩ := hg
    obtain ⟨hs, hgd, hx2, es', ep', vs, hdt, hsz, kv, hm⟩ := I.frzK hd
    obtain ⟨rfl, rfl⟩ := dict_ep hod hdt
    obtain ⟨f0, f1, f2, f3, f4, f5⟩ := hf it (by simp)
    have hl : es'.size = i := by rw [hsz]; exact hx
    subst hl
    exact wpAny_pyNext_enum_endD (drawsK (prog := X.prog) (w := X.w) (A := X.A.in1) (I.ok.hd hc) it d hdi o es' ep' hod) he ⟨hit, hgd⟩ fun h' eb => ⟨rfl, I.turned (t' := s.toks) (fun b o hb q => eb b o hb q) f0 f1 f3 f4 f5⟩
  self := fun A i s Q E ⟨⟨_, he⟩, _⟩ h => wpAny_pyIter_enum he h
def iEnumK (ta : TA) : TI := fun σ H R => ta σ H fun vs H1 => ∃ d o kvs, vs = [.ref d] ∧ H1 d = some (.frz o (.dK kvs)) ∧ R (ItK2 d o kvs) H1
theorem pi_enumK {X : Cx} {e : Expr} {ta : TA} {p pos tpos : Pos} {elts : List Expr} {kk : Nat} (hg : Gl X "enumerate") (hm : X.mg "enumerate" = none) (ha : PA X [e] ta) (hs : starEach [e] X.env = [(false, eval e X.env)] := by rfl) :
    PI X (.Tuple elts kk tpos) (.Call (.Name "enumerate" p) [e] [] pos) (iEnumK ta) := by
  refine ⟨fun pins s σ H R I h => ?_⟩
  refine Call_ (ld_blt I hg hm boot_enumerate (PyProof.Rows.callWith_type1 (thn (ha.run pos pins s σ H _ I h) fun us s1 ⟨vs, H1, I1, r1, q1⟩ => ?_) hs rfl))
  obtain ⟨d, o, kvs, ex, hd, q⟩ := q1
  subst ex
  cases r1 with
  | cons rl rr =>
    cases rr
    cases rl
    obtain ⟨hsy, hgd, hx, es, ep, vs, hdt, hsz, kv, hmm⟩ := I1.frzK hd
    have hdl : d < s1.heap.objs.size := Heap.lt_size hgd
    refine callEnumK hsy hgd hx hdt fun h' he hit hk => wpAny_pyIter_enum he ?_
    refine ⟨s1.heap.objs.size + 1, [s1.heap.objs.size + 1, s1.heap.objs.size], _, _, H1, rfl, I1.kept (t' := s1.toks) hk, turn_enumK d (s1.heap.objs.size + 1) s1.heap.objs.size o es ep kvs hdt (Nat.ne_of_lt (Nat.lt_succ_of_lt hdl)) (Nat.ne_of_lt hdl) hsz, ⟨⟨.none, he⟩, hit, Nat.succ_ne_self _⟩, fun b hb => ?_, q⟩
    have hle : s1.heap.objs.size ≤ b := by
      rcases (by simpa using hb : b = s1.heap.objs.size + 1 ∨ b = s1.heap.objs.size) with z | z
      · rw [z]; exact Nat.le_succ _
      · rw [z]; exact Nat.le_refl _
    exact I1.fpOk hle (I1.hok.fresh hle)
section
variable {X : Cy} {e a b c o tg kx vx elt i : Expr} {es ifs elts : List Expr} {kk : Nat} {st : Stmt} {sts rest body orelse : List Stmt} {r : Env2} {G : GD} {pos tpos apos cpos p0 : Pos} {D0 : EndsD} {α β γ σT ρ : Type}
theorem ti_enumD {κ ν : Type} {k : κ → Key} {f : ν → D} {Q : List D → Env2 → GD → Prop} (hg : Gl X "enumerate") (hm : X.mg "enumerate" = none) (h : WE X a r G fun x r1 G1 => ∃ (kvs : List (κ × ν)) (r2 : Env2), fz r1 x = some (eD k f kvs, r2) ∧ ((penum (kvs.map (·.1))).length ≤ LIM → Q ((penum (kvs.map (·.1))).map (eP eI fun x => kD (k x))) r2 G1)) (hst : starEach [a] X.env = [(false, eval a X.env)] := by rfl) :
    WI X (.Tuple elts kk tpos) (.Call (.Name "enumerate" p0) [a] [] pos) r G Q := fun F0 T F H σ lk S =>
  RunI.of (pi_enumK hg hm (pa_cons peR pa_nil hst) hst) ((h F0 T F H σ lk S).bl.mono fun v H1 ⟨bl, x, r1, G1, F1, e1, S1, k1, kvs, r2, q1, q2⟩ => by
    obtain ⟨Fa, e2, Sa, rp⟩ := S1.fz k1 q1
    obtain ⟨ad, ob, vs, rfl, z1, z2, z3⟩ := rp
    have hl : (kvs.map fun p => k p.1).length = vs.length := by rw [z3.length]; exact z2
    have hl2 : ((kvs.map fun p => k p.1).zip vs).length = kvs.length := by rw [zip_len hl, List.length_map]
    have hlim : kvs.length ≤ LIM := by have := bl.2.2 ad _ (.inr ⟨ob, Sa.bas.fh _ _ z1⟩); rw [hl2] at this; exact this
    have hpl : (penum (kvs.map (·.1))).length = kvs.length := by unfold penum; rw [penumF_len, List.length_map]
    have e9 : enumD 0 ((kvs.map (·.1)).map fun x => kD (k x)) = (penum (kvs.map (·.1))).map (eP eI fun x => kD (k x)) := enum_map _ 0
    rw [← e9] at q2
    refine ⟨ad, ob, _, rfl, Sa.bas.fh _ _ z1, enumD 0 ((kvs.map (·.1)).map fun x => kD (k x)), r2, G1, Fa, e1.trans e2, Sa, fun F H ea eh => ⟨⟨eh _ _ (ea _ _ z1), by rw [enumD_len, hl2, List.length_map, List.length_map]⟩, fun i d hi => ?_⟩, q2 (by rw [hpl]; exact hlim)⟩
    obtain ⟨d', hd, rfl⟩ := enumD_get hi
    rw [List.map_map, List.getElem?_map] at hd
    cases hk : kvs[i]? with
    | none => rw [hk] at hd; cases hd
    | some kv =>
      rw [hk] at hd; cases hd
      have hlt : i < kvs.length := (List.getElem?_eq_some_iff.mp hk).1
      refine ⟨⟨eh _ _ (ea _ _ z1), by rw [hl2]; exact hlt⟩, fun x H' ⟨p, key, y, hx, hp, hH, hy⟩ => .inr ⟨p, _, hp, hH, hx, ?_⟩⟩
      have := (zip_get' hy).1
      rw [List.getElem?_map, hk] at this; cases this
      rw [Nat.zero_add]
      exact rep_pair (none_F eh hp) rfl (kD_rep _))
end
open Out (Rt)
section
variable {X : Cy} {e a b c o tg kx vx elt i : Expr} {es ifs : List Expr} {st : Stmt} {sts rest body orelse : List Stmt} {r : Env2} {G : GD} {pos tpos apos cpos p0 : Pos} {D0 : EndsD} {α β γ σT ρ : Type}
theorem ResOk.newH {K : PySem.W.Frag} {T F : Hp} {G : GD} {H : Hp} {r : Env2} {σ : L2.St} {x : Res} {v : V} {p : Addr} {o : HO} (h : ResOk K T F G H r σ x v) (hp : H p = none) (hx : ∀ i, x ≠ .pk i) : ResOk K T F G (upd H p o) r σ x v := by
  cases x with
  | sh d => exact h
  | fr d =>
    obtain ⟨q, h1, h2, h3⟩ := h
    exact ⟨q, h1, h2.mono (Ex.refl _) fun o' e => by rw [upd_ne (ne_of_none e hp)]; exact e, h3⟩
  | pk i => exact absurd rfl (hx i)
/-- {k: v, ..}, typed -/
def WPrT (X : Cy) {κ ν : Type} (k : κ → Key) (f : ν → D) : List Expr → List Expr → Env2 → GD → (List (κ × ν) → Env2 → GD → Prop) → Prop
  | a :: ks, v :: vs, r, G, Q => WE X a r G fun x r1 G1 => ∃ key, x = .sh (kD (k key)) ∧ WE X v r1 G1 fun y r2 G2 => ∃ d r3, fz r2 y = some (f d, r3) ∧ WPrT X k f ks vs r3 G2 fun ps r4 G4 => Q ((key, d) :: ps) r4 G4
  | _, _, r, G, Q => Q [] r G
theorem wpr_nil {κ ν : Type} {k : κ → Key} {f : ν → D} {Q : List (κ × ν) → Env2 → GD → Prop} (q : Q [] r G) : WPrT X k f [] [] r G Q := q
theorem wpr_cons {κ ν : Type} {k : κ → Key} {f : ν → D} {v : Expr} {ks vs : List Expr} {Q : List (κ × ν) → Env2 → GD → Prop} (h : WE X a r G fun x r1 G1 => ∃ key, x = .sh (kD (k key)) ∧ WE X v r1 G1 fun y r2 G2 => ∃ d r3, fz r2 y = some (f d, r3) ∧ WPrT X k f ks vs r3 G2 fun ps r4 G4 => Q ((key, d) :: ps) r4 G4) : WPrT X k f (a :: ks) (v :: vs) r G Q := h
theorem wpr_of {κ ν : Type} {k : κ → Key} {f : ν → D} : ∀ (ks vs : List Expr) {r : Env2} {G : GD} {Q : List (κ × ν) → Env2 → GD → Prop} {Q' : List (Key × D) → Env2 → GD → Prop}, WPrT X k f ks vs r G Q → (∀ kvs r G, Q kvs r G → Q' (eDl k f kvs) r G) → WPr X ks vs r G Q'
  | [], [], _, _, _, _, h, m => m [] _ _ h
  | [], _ :: _, _, _, _, _, h, m => m [] _ _ h
  | _ :: _, [], _, _, _, _, h, m => m [] _ _ h
  | a :: ks, v :: vs, r, G, Q, Q', h, m => (show WE X a r G _ from h).mono fun x r1 G1 ⟨key, hx, h1⟩ => ⟨k key, hx, h1.mono fun y r2 G2 ⟨d, r3, e, h2⟩ => ⟨f d, r3, e, wpr_of ks vs h2 fun kvs r G q => m _ r G q⟩⟩
section
variable {κ ν : Type} [DecidableEq κ] {k : κ → Key} {f : ν → D} {a1 a2 a3 v1 v2 v3 : Expr} {Q : Res → Env2 → GD → Prop}
theorem we_dispT1 (hk : KInj k) (h : WPrT X k f [a1] [v1] r G fun kvs r1 G1 => Q (.fr (eD k f (dmk kvs))) r1 G1) : WE X (.Dict [some a1] [v1] pos) r G Q :=
  we_disp1 (wpr_of _ _ h fun kvs r G q => disp_of hk kvs (P := fun d => Q (.fr d) r G) q)
end
end
open Out (Rt)
section
variable {X : Cy} {e a b c o tg kx vx elt i : Expr} {es ifs : List Expr} {st : Stmt} {sts rest body orelse : List Stmt} {r : Env2} {G : GD} {pos tpos apos cpos p0 : Pos} {D0 : EndsD} {α β γ σT ρ : Type}
theorem ints_rep {K : PySem.W.Frag} {F : Hp} : ∀ (ns : List Int), RepL K F (ns.map D.int) (ns.map V.int)
  | [] => rfl
  | n :: ns => ⟨_, _, rfl, rfl, ints_rep ns⟩
theorem Vw.scr {K : PySem.W.Frag} {F H : Hp} (ex : Ex F H) {ns : List Int} {v : V} (h : Vw K F H (.scr ns) v) : ∃ a, v = .ref a ∧ SqL K H a (ns.map V.int) := by
  rcases h with ⟨a, h1, h2⟩ | ⟨_, _, h⟩
  · exact ⟨a, h1, ex.sqL h2⟩
  · exact h.elim
theorem c_listR {ns : List Int} {Q : Res → Prop} (q : Q (.fr (.lst (ns.map D.int)))) : CallW1 X (.type "list") (.scr ns) Q := fun F0 T F G H r σ v S hv => by
  obtain ⟨p, rfl, k1⟩ := hv.scr S.bas.fh
  exact ⟨_, call_list_of, p, _, rfl, .inl k1, fun l hl => new_lst S (ints_rep ns) hl q⟩
theorem wi_scr {Q : List D → Env2 → GD → Prop} (h : WE X e r G fun x r1 G1 => ∃ ns r2, fz r1 x = some (.scr ns, r2) ∧ Q (ns.map D.int) r2 G1) : WI X tg e r G Q := fun F0 T F H σ lk S =>
  RunI.of (pi_list peR) ((h F0 T F H σ lk S).mono fun v H1 ⟨x, r1, G1, F1, e1, S1, k1, ns, r2, q1, q2⟩ => by
    obtain ⟨Fa, e2, Sa, rp⟩ := S1.fz k1 q1
    obtain ⟨a, rfl, z1⟩ := rp
    refine ⟨a, rfl, ⟨_, Sa.bas.fh.sqL z1⟩, ns.map D.int, r2, G1, Fa, e1.trans e2, Sa, fun F H ea eh => ⟨⟨_, eh.sqL (ea.sqL z1), by rw [List.length_map, List.length_map]; exact Nat.le_refl _⟩, fun i d hi => ?_⟩, q2⟩
    rw [List.getElem?_map] at hi
    cases hn : ns[i]? with
    | none => rw [hn] at hi; cases hi
    | some n =>
      rw [hn] at hi; cases hi
      exact ⟨⟨_, .int n, eh.sqL (ea.sqL z1), by rw [List.getElem?_map, hn]; rfl⟩, fun x H' ⟨y1, y2⟩ => .inl ⟨y1, by
        have := y2 _ (eh.sqL (ea.sqL z1))
        rw [List.getElem?_map, hn] at this; cases this; rfl⟩⟩)
end
instance instRgOk (a b : Int) : Decidable (RgOk a b) := by unfold RgOk; infer_instance
/-- a law: the script in, a truth value out; nothing is said of the open region behind it -/
def FLaw (f : List Int → Out Bool) : FSp := fun ds _ post _ => ∃ ns, ds = [.scr ns] ∧ (f ns).sat (fun v => ∀ G', post (.sh (.bl v)) G') (fun _ => False)
open Out (Rt)
open Out (Rt)
structure FlC {α : Type} (en : α → D) (vf : α → V) : Prop where
  rep : ∀ (K : PySem.W.Frag) (F : Hp) (a : α) (v : V), Rep K F (en a) v → v = vf a
  nown : ∀ (K : PySem.W.Frag) (F H : Hp) (p : Addr) (a : α), ¬ Own K F H p (en a)
  flat : ∀ a, flatV (vf a) = true
  eq : ∀ a b, eqV (vf a) (vf b) = true ↔ a = b
section
variable {X : Cy} {α : Type} [DecidableEq α] {en : α → D} {vf : α → V}
theorem FlC.all (h : FlC en vf) {K : PySem.W.Frag} {F : Hp} : ∀ {xs : List α} {vs : List V}, RepL K F (xs.map en) vs → vs = xs.map vf
  | [], _, e => e
  | x :: xs, _, ⟨v, r, e1, e2, e3⟩ => by subst e1; rw [h.rep K F x v e2, h.all e3]; rfl
end
open Out (Rt)
section
variable {X : Cy} {e a b c o tg kx vx elt i : Expr} {es ifs : List Expr} {st : Stmt} {sts rest body orelse : List Stmt} {r : Env2} {G : GD} {pos tpos apos cpos p0 : Pos} {D0 : EndsD} {α β γ σT ρ : Type}
theorem opw_fdivE {Q : Res → Prop} {i j : Int} (hc : 0 < j ∧ j < 2 ^ 200) (q : Q (.sh (.int (i / j)))) : OpW X (binaryOp .FloorDiv) (.int i) (.int j) Q :=
  opw_flat (d := .int (i / j)) (v := .int (i / j)) (fun _ _ => rfl) (fun F H va vb _ h1 h2 => ⟨_, op_fdivW, fun P p => ⟨i, j, h1.int, h2.int, wide_div (b := 200) hc.1 (by have := hc.2; have := hc.1; omega) (by decide) (by decide), p⟩⟩) q
/-- results that are held together -/
def NzL (K : PySem.W.Frag) (T F : Hp) (G : GD) (H : Hp) (r : Env2) (σ : L2.St) : List Res → List V → Prop
  | [], vs => vs = []
  | z :: zs, vs => ∃ v us, vs = v :: us ∧ ResOk K T F G H r σ z v ∧ (∀ i, z ≠ .pk i) ∧ (∀ z2 v2, (z2, v2) ∈ zs.zip us → ∀ d d2, z = .fr d → z2 = .fr d2 → v ≠ v2) ∧ NzL K T F G H r σ zs us
theorem NzL.len {K : PySem.W.Frag} {T F : Hp} {G : GD} {H : Hp} {r : Env2} {σ : L2.St} : ∀ {zs : List Res} {vs : List V}, NzL K T F G H r σ zs vs → vs.length = zs.length
  | [], _, h => by rw [show _ = [] from h]; rfl
  | _ :: _, _, ⟨v, us, e, _, _, _, h⟩ => by rw [e, List.length_cons, List.length_cons, h.len]
theorem NzL.mem {K : PySem.W.Frag} {T F : Hp} {G : GD} {H : Hp} {r : Env2} {σ : L2.St} : ∀ {zs : List Res} {vs : List V}, NzL K T F G H r σ zs vs → ∀ z v, (z, v) ∈ zs.zip vs → ResOk K T F G H r σ z v ∧ ∀ i, z ≠ .pk i
  | [], _, _, z, v, hm => by simp at hm
  | _ :: _, _, ⟨v0, us, e, h1, h2, _, h⟩, z, v, hm => by
    subst e
    rw [List.zip_cons_cons, List.mem_cons] at hm
    rcases hm with hm | hm
    · cases hm; exact ⟨h1, h2⟩
    · exact h.mem z v hm
theorem NzL.map {K : PySem.W.Frag} {T T' F : Hp} {G : GD} {H : Hp} {r : Env2} {σ : L2.St} (f : ∀ z v, ResOk K T F G H r σ z v → ResOk K T' F G H r σ z v) : ∀ {zs : List Res} {vs : List V}, NzL K T F G H r σ zs vs → NzL K T' F G H r σ zs vs
  | [], _, h => h
  | _ :: _, _, ⟨v, us, e, h1, h2, h3, h⟩ => ⟨v, us, e, f _ _ h1, h2, h3, h.map f⟩
theorem NzL.newH {K : PySem.W.Frag} {T F : Hp} {G : GD} {H : Hp} {r : Env2} {σ : L2.St} {p : Addr} {o : HO} (hp : H p = none) : ∀ {zs : List Res} {vs : List V}, NzL K T F G H r σ zs vs → NzL K T F G (upd H p o) r σ zs vs
  | [], _, h => h
  | _ :: _, _, ⟨v, us, e, h1, h2, h3, h⟩ => ⟨v, us, e, h1.newH hp h2, h2, h3, h.newH hp⟩
theorem NzL.setR {K : PySem.W.Frag} {T F : Hp} {G : GD} {H : Hp} {r : Env2} {σ : L2.St} {z : Res} {v : V} {i : Nat} (hi : i < r.length) (hl : r.length = σ.length) (hz : ∀ i, z ≠ .pk i) : ∀ {zs : List Res} {vs : List V}, (∀ z2 v2, (z2, v2) ∈ zs.zip vs → ∀ d d2, z = .fr d → z2 = .fr d2 → v ≠ v2) → NzL K T F G H r σ zs vs → NzL K T F G H (r.set i (slO z)) (σ.set i (some v)) zs vs
  | [], _, _, h => h
  | z2 :: zs, _, hd, ⟨v2, us, e, h1, h2, h3, h⟩ => by
    subst e
    exact ⟨v2, us, rfl, h1.setR hi hl hz h2 (hd z2 v2 (by simp)), h2, h3, h.setR hi hl hz fun z3 v3 hm => hd z3 v3 (by rw [List.zip_cons_cons]; exact List.mem_cons_of_mem _ hm)⟩
theorem setAllR {K : PySem.W.Frag} {F0 T F : Hp} {G : GD} {H : Hp} : ∀ (ixs : List Nat) (zs : List Res) (vs : List V) (r : Env2) (σ : L2.St), Sta K F0 T F G H r σ → NzL K T F G H r σ zs vs → (∀ i, i ∈ ixs → i < r.length) → Sta K F0 T F G H ((ixs.zip zs).foldl (fun r p => r.set p.1 (slO p.2)) r) ((ixs.zip vs).foldl (fun s p => s.set p.1 (some p.2)) σ)
  | [], _, _, r, σ, S, _, _ => by simpa using S
  | i :: ixs, [], _, r, σ, S, h, _ => by rw [show _ = [] from h]; simpa using S
  | i :: ixs, z :: zs, _, r, σ, S, ⟨v, us, e, h1, h2, h3, h⟩, hi => by
    subst e
    rw [List.zip_cons_cons, List.zip_cons_cons, List.foldl_cons, List.foldl_cons]
    have hl := hi i List.mem_cons_self
    exact setAllR ixs zs us _ _ (S.setR h1 hl h2) (h.setR hl S.len h2 h3) fun j hj => by rw [List.length_set]; exact hi j (List.mem_cons_of_mem _ hj)
def WN (X : Cy) (es : List Expr) (r : Env2) (G : GD) (Q : List Res → Env2 → GD → Prop) : Prop :=
  ∀ (F0 T F H : Hp) (σ : L2.St), Lk X F0 T → Sta X.K F0 T F G H r σ → RunA X es σ H fun vs H' => ∃ zs r' G' F', Ex F F' ∧ Sta X.K F0 T F' G' H' r' σ ∧ NzL X.K T F' G' H' r' σ zs vs ∧ Q zs r' G'
theorem wn_nil {Q : List Res → Env2 → GD → Prop} (q : Q [] r G) : WN X [] r G Q := fun F0 T F H σ lk S => RunA.of pa_nil ⟨[], r, G, F, Ex.refl _, S, rfl, q⟩
theorem wn_cons {Q : List Res → Env2 → GD → Prop} (h : WE X a r G fun z r1 G1 => ∃ z' r2, nz r1 z = some (z', r2) ∧ WN X es r2 G1 fun zs r3 G3 => Q (z' :: zs) r3 G3) (hs : starEach (a :: es) X.env = (false, eval a X.env) :: starEach es X.env := by rfl) : WN X (a :: es) r G Q := fun F0 T F H σ lk S =>
  RunA.of (pa_cons peR paR hs) ((h F0 T F H σ lk S).mono fun v H1 ⟨z, r1, G1, F1, e1, S1, k1, z', r2, q1, q2⟩ => by
    obtain ⟨F2, e2, S2, k2, hz⟩ := S1.nz k1 q1
    obtain ⟨T', tx, S2', hold⟩ := holdT S2 k2 hz
    refine (q2 F0 T' F2 H1 σ (lk.ext tx) S2').mono fun ws H3 ⟨zs, r3, G3, F3, e3, S3, k3, q3⟩ => ?_
    obtain ⟨S4, m1, m2⟩ := hold F3 G3 H3 r3 σ e3 S3
    exact ⟨z' :: zs, r3, G3, F3, (e1.trans e2).trans e3, S4, ⟨v, ws, rfl, m1, hz, fun z2 v2 hm => (m2 z2 v2 (k3.mem z2 v2 hm).1).2, k3.map fun z2 v2 k => (m2 z2 v2 k).1⟩, q3⟩)
/-- a, b, .. = e1, e2, .. by a tuple -/
theorem ws_parN {ts : List Expr} {kt k2 : Nat} {pt pt2 : Pos} (ixs : List Nat) (hc : X.calm = true) (hp : All2 (fun t i => PG X t (gName i)) ts ixs) (hst : ∀ t ∈ ts, ∀ us, (assignEach (t :: us) X.env).map (·.2) = assign t X.env :: (assignEach us X.env).map (·.2))
    (h : WN X es r G fun zs r1 G1 => zs.length = ixs.length ∧ zs.length ≤ 100 ∧ (∀ i, i ∈ ixs → i < r1.length) ∧ D0.nx ((ixs.zip zs).foldl (fun r p => r.set p.1 (slO p.2)) r1) G1)
    (hn : (assignEach ts X.env).length = ixs.length := by rfl) (hf : (assignEach ts X.env).findIdx? (·.1) = none := by rfl)
    (hs : swapsWithSole [.Tuple ts kt pt] (.Tuple es k2 pt2) pos.line X.env = pure false := by rfl) (hw : swappedStores [.Tuple ts kt pt] (.Tuple es k2 pt2) X.env = pure none := by rfl)
    (h1 : (assignEach [.Tuple ts kt pt] X.env).map (·.2) = [assign (.Tuple ts kt pt) X.env] := by rfl) :
    WS X (.Assign [.Tuple ts kt pt] (.Tuple es k2 pt2) pos) r G D0 := fun F0 T F H σ lk S =>
  RunS.of (ps_asg (pe_tup paR) (pg_tup hc (pgs_run hp hst) hn hf) hs hw h1) ((h F0 T F H σ lk S).mono fun vs H1 ⟨zs, r1, G1, F1, e1, S1, k1, q1, q2, q3, q4⟩ => by
    refine ⟨(by rw [k1.len]; show _ ≤ 16777216; omega), fun p hp => ⟨p, vs, rfl, .inl (.inl upd_same), by rw [k1.len]; exact q1, by rw [k1.len]; exact q1, ?_⟩⟩
    exact ⟨_, G1, F1, setAllR ixs zs vs r1 σ (S1.newH hp) (k1.newH hp) q3, q4⟩)
theorem all_lt {ixs : List Nat} {n : Nat} {r : Env2} (h : r.length = n) (k : ixs.all (fun i => decide (i < n)) = true) : ∀ i, i ∈ ixs → i < r.length := fun i hi => by
  have := List.all_eq_true.mp k i hi
  rw [h]; simpa using this
def RunGs (X : Cx) (ts : List Expr) : TGs := fun vs σ H Q => ∀ (pins : List (Addr × Obj)) (s : Shared) (us : List Value), Inv X pins σ H s → Vals vs us → wpAny (model X.prog X.w) X.A (assignInOrder ((assignEach ts X.env).map (·.2)) us) (fun _ s' => ∃ σ' H', Inv X pins σ' H' s' ∧ Q σ' H') X.xe s
theorem RunGs.of {X : Cx} {ts : List Expr} {t : TGs} {vs : List V} {σ : L2.St} {H : Hp} {Q : L2.St → Hp → Prop} (h : PGs X ts t) (k : t vs σ H Q) : RunGs X ts vs σ H Q := fun pins s us I rv => h.run pins s σ H vs us Q I rv k
theorem RunG.of {X : Cx} {tg : Expr} {t : TG} {v : V} {σ : L2.St} {H : Hp} {Q : L2.St → Hp → Prop} (h : PG X tg t) (k : t v σ H Q) : RunG X tg v σ H Q := fun pins s u I rv => h.run pins s σ H v u Q I rv k
theorem RunG.mono {X : Cx} {tg : Expr} {v : V} {σ : L2.St} {H : Hp} {Q Q' : L2.St → Hp → Prop} (h : RunG X tg v σ H Q) (k : ∀ σ' H', Q σ' H' → Q' σ' H') : RunG X tg v σ H Q' := fun pins s u I rv => wpAny_mono (h pins s u I rv) (fun _ _ ⟨σ', H', I', q⟩ => ⟨σ', H', I', k σ' H' q⟩) fun _ _ x => x
theorem RunGs.mono {X : Cx} {ts : List Expr} {vs : List V} {σ : L2.St} {H : Hp} {Q Q' : L2.St → Hp → Prop} (h : RunGs X ts vs σ H Q) (k : ∀ σ' H', Q σ' H' → Q' σ' H') : RunGs X ts vs σ H Q' := fun pins s us I rv => wpAny_mono (h pins s us I rv) (fun _ _ ⟨σ', H', I', q⟩ => ⟨σ', H', I', k σ' H' q⟩) fun _ _ x => x
end
open Out (Rt)
section
variable {X : Cy} {e a b c o tg kx vx elt i : Expr} {es ifs : List Expr} {st : Stmt} {sts rest body orelse : List Stmt} {r : Env2} {G : GD} {pos tpos apos cpos p0 : Pos} {D0 : EndsD} {α β γ σT ρ : Type}
instance instRgC (i j c : Int) (n : Nat) : Decidable (RgC i j c n) := by unfold RgC; infer_instance
end
open Out (Rt)
structure OrC {α : Type} (en : α → D) (n : Nat) : Prop where
  eqc : EqC en n
  al : ∀ a b, PySem.W.alike (toP (en a)) (toP (en b)) = true
  nn : ∀ a, toP (en a) ≠ .none
  dp : ∀ a, (toP (en a)).depth ≤ n
section
variable {α β γ : Type}
def ltC (en : α → D) (a b : α) : Bool := PySem.W.dataLt (toP (en a)) (toP (en b))
def leC (en : α → D) (a b : α) : Bool := !ltC en b a
theorem orc_str : OrC eZ 0 := ⟨eqc_str, fun _ _ => rfl, (fun _ h => nomatch h), fun a => (by show PyData.depth (toP (eZ a)) ≤ 0; simp [toP, PyData.depth])⟩
end
section
variable {X : Cx}
def rCmpD (K : PySem.W.Frag) (g : PyData → PyData → Bool) : R2 := fun x y H Q => ∃ d e, Dp K H x d ∧ Dp K H y e ∧ PySem.W.alike d e = true ∧ d ≠ .none ∧ d.depth ≤ 60 ∧ Q (.bl (g d e)) H
theorem op_leD (hu : X.A.units + 64 < cLine) : OpR X (compareOp .LtE) (rCmpD X.K fun d e => !PySem.W.dataLt e d) := by
  intro pins s σ H x y v u Q I rx ry h
  obtain ⟨d, e, hd, he, sd, se, dp, q⟩ := h
  obtain ⟨as, r1⟩ := Dp.reads I d x v hd rx
  obtain ⟨bs, r2⟩ := Dp.reads I e y u he ry
  exact PySem.W.le_data r1 r2 sd se (by omega) ⟨.bl _, H, I, rfl, q⟩
end
section
variable {X : Cy} {α : Type} {en : α → D} {n : Nat} {Q : Res → Prop}
theorem OrC.dpv (h : OrC en n) {K : PySem.W.Frag} {F H : Hp} (ex : Ex F H) {a : α} {v : V} (hv : Vw K F H (en a) v) : Dp K H v (toP (en a)) := okD.dp ex n _ _ (h.eqc.ok a) hv
theorem opw_leC (h : OrC en n) (hu : X.A.units + 64 < cLine) (a b : α) (q : Q (.sh (.bl (leC en a b)))) (hn : n ≤ 60 := by decide) : OpW X (compareOp .LtE) (en a) (en b) Q :=
  opw_flat (d := .bl (leC en a b)) (v := .bl (leC en a b)) (fun _ _ => rfl) (fun F H va vb ex h1 h2 => ⟨_, op_leD hu, fun P p => ⟨_, _, h.dpv ex h1, h.dpv ex h2, h.al a b, h.nn a, Nat.le_trans (h.dp a) hn, p⟩⟩) q
end
open Out (Rt)
open Out (Rt)
open Out (Rt)
abbrev Bh := { x : List Int × Int × Int // x.1.length ≤ 63 }
def bxH (G0 : GD) (b g : Addr) (x : Bh) : GD := updG (updG G0 g (.lst (x.1.1.map D.int))) b (.lst [.int x.1.2.1, .adr g, .int x.1.2.2])
def FBh {A R : Type} (en : A → List D) (er : R → Res) (f : A → Bh → Out (R × Bh)) : FSp := fun ds G post _ => ∃ (a : A) (G0 : GD) (b g : Addr) (x : Bh), g ≠ b ∧ ds = .adr b :: en a ∧ G = bxH G0 b g x ∧ (f a x).sat (fun v => post (er v.1) (bxH G0 b g v.2)) (fun _ => False)
theorem bxH_b {G0 : GD} {b g : Addr} {x : Bh} : bxH G0 b g x b = some (.lst [.int x.1.2.1, .adr g, .int x.1.2.2]) := updG_same
theorem bxH_g {G0 : GD} {b g : Addr} {x : Bh} (h : g ≠ b) : bxH G0 b g x g = some (.lst (x.1.1.map D.int)) := by unfold bxH; rw [updG_ne h, updG_same]
theorem bxH_setB {G0 : GD} {b g : Addr} {x : Bh} {st ix : Int} : updG (bxH G0 b g x) b (.lst [.int st, .adr g, .int ix]) = bxH G0 b g ⟨(x.1.1, st, ix), x.2⟩ := by
  unfold bxH
  funext a
  by_cases h : a = b
  · subst h; rw [updG_same, updG_same]
  · rw [updG_ne h, updG_ne h, updG_ne h]
theorem bxH_setG {G0 : GD} {b g : Addr} {x : Bh} {ns : List Int} (hl : ns.length ≤ 63) (h : g ≠ b) : updG (bxH G0 b g x) g (.lst (ns.map D.int)) = bxH G0 b g ⟨(ns, x.1.2), hl⟩ := by
  unfold bxH
  funext a
  by_cases h1 : a = g
  · subst h1; rw [updG_same, updG_ne h, updG_same]
  · rw [updG_ne h1]
    by_cases h2 : a = b
    · subst h2; rw [updG_same, updG_same]
    · rw [updG_ne h2, updG_ne h1, updG_ne h2, updG_ne h1]
/-- the def that makes it -/
def FMix (m : (ns : List Int) → ns.length ≤ 63 → Int → Bh) : FSp := fun ds G post _ => ∃ (ns : List Int) (seed : Int) (h : ns.length ≤ 63), ds = [.scr ns, .int seed] ∧ ∀ b g, g ≠ b → G b = none → G g = none → post (.sh (.adr b)) (bxH G b g (m ns h seed))
open Out (Rt)
/-- the box, made of any script -/
def mixT (m : (ns : List Int) → ns.length ≤ 63 → Int → Bh) (ns : List Int) (seed : Int) : Bh := if h : ns.length ≤ 63 then m ns h seed else ⟨([], 0, 0), by simp⟩
theorem mixT_pos {m : (ns : List Int) → ns.length ≤ 63 → Int → Bh} {ns : List Int} {seed : Int} (h : ns.length ≤ 63) : mixT m ns seed = m ns h seed := by unfold mixT; rw [dif_pos h]
open Out (Rt)
section
variable {X : Cy} {e a b c o tg kx vx elt : Expr} {r : Env2} {G : GD} {pos p0 p1 p2 : Pos}
/-- the different ints, ascending -/
def uniq (ns : List Int) : List Int := isort ((dmk (ns.map fun x => (x, true))).map (·.1))
end
open Out (Rt)
/-- an own exception class over ValueError without an own __init__ -/
structure XC (K : PySem.W.Frag) (mg : Str → Option Value) (x : Str) (C : Addr) : Prop where
  q : PySem.W.excIn K C [.type "ValueError", .type "Exception", .type "BaseException", .type "object"] "ValueError.__new__" = true
  gC : mg x = some (.ref C)
  kC : PySem.W.keepIn K (.ref C) = true
  sb : PySem.W.subIn K (.ref C) (.type "BaseException") = some true
  ty : PySem.W.typeIn K (.ref C) = some (.type "type")
section
variable {X : Cy} {e a b c o : Expr} {es : List Expr} {r : Env2} {G : GD} {pos p0 p1 p2 rpos : Pos} {D0 : EndsD}
theorem ws_raise1 {x m : Str} {C : Addr} {j : Nat} (xc : XC X.K X.mg x C) (hc : X.calm = true) (tk : X.Tk) (hg : Gl X x) (h : X.QX ⟨.ref C, []⟩ r G) (hdb : (x == ("__debug__" : Str)) = false := by decide) :
    WS X (.Raise (some (.Call (.Name x p0) [.Constant (.str m) j p2] [] pos)) none rpos) r G D0 := fun F0 T F H σ lk S =>
  RunS.of (ps_raise hc tk (pmk_own PySem.F.excBase_ValueError xc.q xc.gC xc.kC (raises_own xc.sb xc.ty) hg hdb)) ⟨r, G, F, _, lk.sta S, ⟨rfl, .inl ⟨rfl, rfl⟩⟩, h⟩
end
/-- a table grows by a code object -/
theorem Sta.tab {K : PySem.W.Frag} {F0 T F : Hp} {G : GD} {H : Hp} {r : Env2} {σ : L2.St} {P c : Addr} {q : Str} {ps more : Array Value} (S : Sta K F0 T F G H r σ) (hG : G P = some (.tab q)) (hc : H c = none)
    (ht : TriplesOk (ps ++ more).toList) (ha : ∀ (pos : Pos) (cv : Value), codeAmong pos (ps ++ more).toList = some cv → (∃ c0, cv = .ref c0 ∧ F c0 = some (LamX.CodeO c0 q)) ∨ cv = .ref c) :
    Sta K F0 T (upd F c (LamX.CodeO c q)) G (upd (upd H P (.tbl (ps ++ more))) c (LamX.CodeO c q)) r σ := by
  obtain ⟨fc, gc, tc⟩ := S.bas.freshF hc
  have fP := S.bas.fg _ _ hG
  have tP := S.bas.gt _ _ hG
  have hPc : P ≠ c := fun z => by subst z; obtain ⟨o, ho⟩ := S.bas.gh' hG; rw [hc] at ho; cases ho
  have ef : Ex F (upd F c (LamX.CodeO c q)) := Ex.new fc
  have at_ : ∀ a, a ≠ P → a ≠ c → upd (upd H P (.tbl (ps ++ more))) c (LamX.CodeO c q) a = H a := fun a h1 h2 => by rw [upd_ne h2, upd_ne h1]
  refine S.grow (G' := G) ⟨S.bas.ff.trans ef, fun a o h => ?_, fun a o h => ?_, fun a d h => ?_, fun a o h => ?_, S.bas.gt, fun a o h => ?_⟩ ef fun p h1 h2 h3 ⟨u, hu⟩ => ?_
  · by_cases e : a = c
    · subst e; exact .inr tc
    · rw [upd_ne e] at h; exact S.bas.ft a o h
  · by_cases e : a = c
    · subst e; rw [upd_same] at h ⊢; exact h
    · rw [upd_ne e] at h ⊢
      have eP : a ≠ P := fun z => by subst z; rw [fP] at h; cases h
      rw [upd_ne eP]; exact S.bas.fh a o h
  · by_cases e : a = P
    · subst e
      rw [hG] at h; cases h
      exact ⟨_, by rw [upd_ne hPc, upd_same], ht, fun pos cv hcv => by
        rcases ha pos cv hcv with ⟨c0, e1, e2⟩ | e1
        · exact ⟨c0, e1, ef _ _ e2⟩
        · exact ⟨c, e1, upd_same⟩⟩
    · have ec : a ≠ c := fun z => by subst z; rw [gc] at h; cases h
      exact (S.bas.gh a d h).mono ef fun o ho => by rw [at_ a e ec]; exact ho
  · have ec : a ≠ c := fun z => by subst z; rw [gc] at h; cases h
    rw [upd_ne ec]; exact S.bas.fg a o h
  · have ec : a ≠ c := ne_of_none h tc
    have eP : a ≠ P := ne_of_none h tP
    rw [at_ a eP ec]; exact S.bas.tk a o h
  · have ec : p ≠ c := fun z => by subst z; rw [hc] at hu; cases hu
    have eP : p ≠ P := fun z => by subst z; rw [h2] at hG; cases hG
    exact ⟨fun o ho => by rw [at_ p eP ec]; exact ho, by rw [upd_ne ec]; exact h1, h2, h3⟩
structure RoomS (A : Around) : Prop where
  units : A.units + 64 < cLine
/-- a context of the suite, the exception x at a -/
def SuiY (Z : Cx) (x : Exn) (a : Addr) (Y : Cy) : Prop := ∃ (oe : Obj) (pn : List (Addr × Obj)) (d : Option Addr) (F T : Hp), RoomS Z.A ∧ Zc x.cls d oe ∧ (∃ vs, oe.data = .fields vs) ∧ ExOk Z.K F x.cls d x ∧ Y = { Z.suite a ((a, oe) :: pn) with F0 := F, T := T, QX := fun _ _ _ => False }
section
variable {Z : Cx} {x0 : Exn} {a0 : Addr} {Y : Cy} {oe : Obj} {pn : List (Addr × Obj)} {d : Option Addr} {F1 T1 : Hp} {r : Env2} {G : GD} {a : Expr} {pos p0 : Pos}
theorem ExOk.dict {K : PySem.W.Frag} {F H : Hp} {cls : Value} {d : Option Addr} {x : Exn} (h : ExOk K F cls d x) (e : Ex F H) : d = none ∨ ∃ dd fs, d = some dd ∧ H dd = some (.xd fs) := by
  obtain ⟨_, ⟨h2, h3⟩ | ⟨a, vs, h2, h3, h4⟩⟩ := h
  · exact .inl h2
  · exact .inr ⟨a, _, h2, e _ _ h3⟩
/-- e.f -/
theorem we_xf {f : Str} {C : Addr} {Q : Res → Env2 → GD → Prop} (T : XfC Z.K C) (hno : PySem.W.findIn Z.K (.ref C) f = some none) (hz : Zc (.ref C) d oe) (hf : ∃ vs, oe.data = .fields vs) (ex : ExOk Z.K F1 (.ref C) d x0) {dv : D} (hne : x0.fs ≠ []) (hfs : x0.fs.lookup f = some dv)
    (h : WE { Z.suite a0 ((a0, oe) :: pn) with F0 := F1, T := T1, QX := fun _ _ _ => False } a r G fun z r1 G1 => z = .sh (.adr a0) ∧ Q (.sh dv) r1 G1)
    (hb : attributeBase a f Z.env (eval a Z.env) = eval a Z.env := by rfl) :
    WE { Z.suite a0 ((a0, oe) :: pn) with F0 := F1, T := T1, QX := fun _ _ _ => False } (.Attribute a f pos) r G Q := fun F0 T' F H σ lk S =>
  Run.of (pe_xf T hno hz hf peR hb) ((h F0 T' F H σ lk S).mono fun v H1 ⟨z, r1, G1, F2, e1, S1, k1, q1, q4⟩ => by
    subst q1
    cases (show v = .ref a0 from k1)
    obtain ⟨_, ⟨_, h3⟩ | ⟨dd, vs, h2, h3, h4⟩⟩ := ex
    · exact absurd h3 hne
    have g1 := lk.f.trans S1.bas.ff
    have key : ∀ (fs : List (Str × D)) (vs : List V), RepL Z.K F1 (fs.map (·.2)) vs → fs.lookup f = some dv → ∃ v, ((fs.map (·.1)).zip vs).lookup f = some v ∧ Rep Z.K F1 dv v := by
      intro fs
      induction fs with
      | nil => intro vs _ hl; cases hl
      | cons q fs ih =>
        intro vs hr hl
        obtain ⟨v, r', rfl, h5, h6⟩ := hr
        obtain ⟨n, dq⟩ := q
        simp only [List.map_cons, List.zip_cons_cons, List.lookup_cons] at hl ⊢
        cases hh : (f == n) with
        | true => rw [hh] at hl; cases hl; exact ⟨v, rfl, h5⟩
        | false => rw [hh] at hl; exact ih r' h6 hl
    obtain ⟨v, hl, hr⟩ := key _ _ h4 hfs
    exact ⟨rfl, rfl, dd, _, v, h2, (g1.trans S1.bas.fh) _ _ h3, hl, .sh dv, r1, G1, F2, e1, S1, Rep.mono g1 _ _ hr, q4⟩)
end
open Out (Rt)
open Out (Rt)
def xcx (l : List Addr) (n : Nat) : Addr := l.getD n 0
theorem kit_typ {K : PySem.W.Frag} {D1 : Addr} {b : Bool} (hs : PySem.W.subIn K (.ref D1) (.type "ValueError") = some b) : PySem.W.kitOne K (.ref D1) (.type "ValueError") = some b := by
  unfold PySem.W.kitOne
  rw [if_neg (show ¬ ((Value.ref D1 == Value.type "ValueError") = true) from fun h => by cases (beq_iff_eq.mp h))]
  unfold PySem.W.kitCls
  dsimp only
  rw [if_pos (by decide +kernel), hs]
open Out (Rt)
open Out (Rt)
/-- its names: parameters that no slot bears, captured ones, globals -/
structure LamD (N : List Str) (sc scope : Scope) (a : Str) : Prop where
  kind : scope.kind = .function
  co : scope.isCoroutine = false
  gen : scope.isGenerator = false
  nocell : ∀ y ∈ scope.names, y.2 ≠ .cell
  own : ∀ y ∈ scope.names, y.2 = .local → y.1 ∉ N
  free : ∀ y ∈ scope.names, y.2 = .free → sc.names.lookup y.1 = some .cell ∨ sc.names.lookup y.1 = some .free
  par : scope.names.lookup a = some .local
theorem LamD.has {X : Cx} {scope : Scope} {a : Str} (L : LamD X.N X.env.scope scope a) (ok : X.Ok) : ∀ y ∈ scope.names, y.2 = .free → ∃ c, X.env.cells.lookup y.1 = some c := fun y hy e => ok.has y.1 (L.free y hy e)
mutual
def nkP : PyData → NestedKey
  | .int i => .num i
  | .bool b => .num (if b = true then 1 else 0)
  | .str x => .text x
  | .tuple ds => .tup (nkPs ds)
  | _ => .none
def nkPs : List PyData → List NestedKey
  | [] => []
  | d :: ds => nkP d :: nkPs ds
end
mutual
def nkB : PyData → Bool
  | .int _ => true
  | .bool _ => true
  | .str _ => true
  | .tuple ds => nkBs ds
  | .none => true
  | _ => false
def nkBs : List PyData → Bool
  | [] => true
  | d :: ds => nkB d && nkBs ds
end
mutual
theorem nested_of {h : Heap} : ∀ (d : PyData) {v : Value} {as : List Addr}, nkB d = true → Reads h v d as → NestedIs h (nkP d) v
  | .int i, _, _, _, .int _ t => .int i t
  | .bool b, _, _, _, .bool _ => .bool rfl
  | .str x, _, _, _, .str _ t => .text x t
  | .none, _, _, _, .none => .none
  | .tuple ds, _, _, hb, .tuple h1 h2 h3 h4 => .tup h1 h2 h3 (nested_all ds hb h4)
theorem nested_all {h : Heap} : ∀ (ds : List PyData) {vs : List Value} {as : List Addr}, nkBs ds = true → ReadsAll h vs ds as → NestedAll h (nkPs ds) vs
  | [], _, _, _, .nil => .nil
  | d :: ds, _, _, hb, .cons h1 h2 => by
    have hb : (nkB d && nkBs ds) = true := hb
    rw [Bool.and_eq_true] at hb
    exact .cons (nested_of d hb.1 h1) (nested_all ds hb.2 h2)
end
section
variable {P : Program} {w : World} {H : Hp} {h : Heap} {a p : Addr} {xs : List KdE} {k : NestedKey} {v : V}
/-- the key of an entry, told by the ghost heap -/
def KyAt (K : PySem.W.Frag) (H : Hp) (x : KdE) : Prop := ∃ d, Dp K H (.ref x.2.1) d ∧ nkP d = x.1 ∧ nkB d = true ∧ x.1.depth ≤ 8
end
theorem KyAt.is {X : Cx} {pins : List (Addr × Obj)} {σ : L2.St} {H : Hp} {s : Shared} (I : Inv X pins σ H s) {x : KdE} (h : KyAt X.K H x) : (nestedKind X.prog X.w).is s.heap x.1 x.2.1 := by
  obtain ⟨d, h1, h2, h3, h4⟩ := h
  obtain ⟨as, hr⟩ := Dp.reads I d (.ref x.2.1) (.ref x.2.1) h1 rfl
  refine ⟨?_, h4⟩
  rw [← h2]; exact nested_of d h3 hr
/-- a key that is there, or a new one -/
def putN (xs : List KdE) (k : NestedKey) (p : Addr) (v : V) : List KdE := if (xs.any fun x => decide (x.1 = k)) = true then xs.map (fun x => if x.1 = k then (x.1, x.2.1, v) else x) else xs ++ [(k, p, v)]
def valN (xs : List KdE) (k : NestedKey) : Option V := (xs.find? fun x => decide (x.1 = k)).map (·.2.2)
def KRep (K : PySem.W.Frag) (F : Hp) : List (D × D) → List KdE → Prop
  | [], us => us = []
  | p :: acc, us => ∃ u us', us = u :: us' ∧ u.1 = nkD p.1 ∧ Rep K F p.1 (.ref u.2.1) ∧ Rep K F p.2 u.2.2 ∧ KRep K F acc us'
def kdD (w : World) (acc : List (D × D)) : D := .kd w (acc.map (·.1)) (acc.map (·.2))
structure KyD (d : D) : Prop where
  ok : ∃ n, okD n d
  nb : nkB (toP d) = true
  dp : (nkD d).depth ≤ 8
section
variable {K : PySem.W.Frag} {F F' H : Hp} {w : World}
theorem KRep.mono (e : Ex F F') : ∀ {acc : List (D × D)} {us : List KdE}, KRep K F acc us → KRep K F' acc us
  | [], _, h => h
  | p :: acc, _, ⟨u, us', h1, h2, h3, h4, h5⟩ => ⟨u, us', h1, h2, Rep.mono e _ _ h3, Rep.mono e _ _ h4, h5.mono e⟩
theorem KRep.length : ∀ {acc : List (D × D)} {us : List KdE}, KRep K F acc us → us.length = acc.length
  | [], _, h => by rw [show _ = [] from h]; rfl
  | p :: acc, _, ⟨u, us', h1, _, _, _, h5⟩ => by rw [h1, List.length_cons, List.length_cons, h5.length]
theorem KRep.own : ∀ {acc : List (D × D)} {us : List KdE}, KRep K F acc us → us.map (·.1) = nkDs (acc.map (·.1)) ∧ RepL K F (acc.map (·.1)) (us.map fun e => .ref e.2.1) ∧ RepL K F (acc.map (·.2)) (us.map (·.2.2))
  | [], _, h => by rw [show _ = [] from h]; exact ⟨rfl, rfl, rfl⟩
  | p :: acc, _, ⟨u, us', h1, h2, h3, h4, h5⟩ => by
    subst h1
    obtain ⟨z1, z2, z3⟩ := h5.own
    refine ⟨?_, ⟨_, _, rfl, h3, z2⟩, ⟨_, _, rfl, h4, z3⟩⟩
    show u.1 :: us'.map (·.1) = nkD p.1 :: nkDs (acc.map (·.1))
    rw [h2, z1]
theorem KRep.of : ∀ {acc : List (D × D)} {us : List KdE}, us.map (·.1) = nkDs (acc.map (·.1)) → RepL K F (acc.map (·.1)) (us.map fun e => .ref e.2.1) → RepL K F (acc.map (·.2)) (us.map (·.2.2)) → KRep K F acc us
  | [], us, h, _, _ => by cases us with | nil => rfl | cons u us => cases h
  | p :: acc, us, h, h2, h3 => by
    cases us with
    | nil => cases h
    | cons u us =>
      have h' : u.1 :: us.map (·.1) = nkD p.1 :: nkDs (acc.map (·.1)) := h
      injection h' with e1 e2
      obtain ⟨v, r, z1, z2, z3⟩ := h2
      obtain ⟨v', r', y1, y2, y3⟩ := h3
      injection z1 with z4 z5
      injection y1 with y4 y5
      subst z4 z5 y4 y5
      exact ⟨u, us, rfl, e1, z2, y2, KRep.of e2 z3 y3⟩
theorem own_kdD {p : Addr} {acc : List (D × D)} {us : List KdE} (h : KRep K F acc us) (hp : H p = some (KdO w p us)) : Own K F H p (kdD w acc) := by
  obtain ⟨z1, z2, z3⟩ := h.own
  exact ⟨us, hp, z1, z2, z3⟩
end
def putKD (acc : List (D × D)) (k d : D) : List (D × D) := if (acc.any fun kv => decide (nkD kv.1 = nkD k)) = true then acc.map (fun kv => if nkD kv.1 = nkD k then (kv.1, d) else kv) else acc ++ [(k, d)]
def valKD (acc : List (D × D)) (k : D) : Option D := (acc.find? fun kv => decide (nkD kv.1 = nkD k)).map (·.2)
section
variable {K : PySem.W.Frag} {F F' H : Hp} {w : World} {k d : D} {p : Addr} {v : V}
theorem KRep.any (k : D) : ∀ {acc : List (D × D)} {us : List KdE}, KRep K F acc us → (us.any fun x => decide (x.1 = nkD k)) = acc.any fun kv => decide (nkD kv.1 = nkD k)
  | [], _, h => by rw [show _ = [] from h]; rfl
  | q :: acc, _, ⟨u, us', h1, h2, _, _, h5⟩ => by subst h1; rw [List.any_cons, List.any_cons, h5.any k, h2]
theorem KRep.over (hv : Rep K F d v) : ∀ {acc : List (D × D)} {us : List KdE}, KRep K F acc us → KRep K F (acc.map fun kv => if nkD kv.1 = nkD k then (kv.1, d) else kv) (us.map fun x => if x.1 = nkD k then (x.1, x.2.1, v) else x)
  | [], _, h => by rw [show _ = [] from h]; rfl
  | q :: acc, _, ⟨u, us', h1, h2, h3, h4, h5⟩ => by
    subst h1
    refine ⟨_, _, List.map_cons, ?_, ?_, ?_, h5.over hv⟩ <;> dsimp only <;> rw [h2] <;> by_cases z : nkD q.1 = nkD k
    · rw [if_pos z, if_pos z]
    · rw [if_neg z, if_neg z]; exact h2
    · rw [if_pos z, if_pos z]; exact h3
    · rw [if_neg z, if_neg z]; exact h3
    · rw [if_pos z, if_pos z]; exact hv
    · rw [if_neg z, if_neg z]; exact h4
theorem KRep.append : ∀ {acc bcc : List (D × D)} {us ws : List KdE}, KRep K F acc us → KRep K F bcc ws → KRep K F (acc ++ bcc) (us ++ ws)
  | [], _, _, _, h, h' => by rw [show _ = [] from h]; exact h'
  | q :: acc, _, _, _, ⟨u, us', h1, h2, h3, h4, h5⟩, h' => by subst h1; exact ⟨u, us' ++ _, rfl, h2, h3, h4, h5.append h'⟩
theorem KRep.put {acc : List (D × D)} {us : List KdE} (h : KRep K F acc us) (hk : Rep K F k (.ref p)) (hv : Rep K F d v) : KRep K F (putKD acc k d) (putN us (nkD k) p v) := by
  unfold putKD putN
  rw [h.any k]
  by_cases z : (acc.any fun kv => decide (nkD kv.1 = nkD k)) = true
  · rw [if_pos z, if_pos z]; exact h.over hv
  · rw [if_neg z, if_neg z]; exact h.append ⟨(nkD k, p, v), [], rfl, rfl, hk, hv, rfl⟩
theorem KRep.val (k : D) : ∀ {acc : List (D × D)} {us : List KdE}, KRep K F acc us → (valKD acc k = none ∧ valN us (nkD k) = none) ∨ ∃ d v, valKD acc k = some d ∧ valN us (nkD k) = some v ∧ Rep K F d v
  | [], _, h => by rw [show _ = [] from h]; exact .inl ⟨rfl, rfl⟩
  | q :: acc, _, ⟨u, us', h1, h2, h3, h4, h5⟩ => by
    subst h1
    by_cases z : nkD q.1 = nkD k
    · right
      refine ⟨q.2, u.2.2, ?_, ?_, h4⟩
      · unfold valKD; rw [List.find?_cons_of_pos (by simpa using z)]; rfl
      · unfold valN; rw [List.find?_cons_of_pos (by simpa [h2] using z)]; rfl
    · have ih := KRep.val k h5
      unfold valKD valN at ih ⊢
      rw [List.find?_cons_of_neg (by simpa using z), List.find?_cons_of_neg (by simpa [h2] using z)]
      exact ih
end
open Out (Rt)
def KR (K : PySem.W.Frag) (F : Hp) (acc : List (D × D)) (us : List KdE) : Prop := KRep K F acc us ∧ ∀ p ∈ acc, KyD p.1
theorem KR.mono {K : PySem.W.Frag} {F F' : Hp} (e : Ex F F') {acc : List (D × D)} {us : List KdE} (h : KR K F acc us) : KR K F' acc us := ⟨h.1.mono e, h.2⟩
theorem KR.length {K : PySem.W.Frag} {F : Hp} {acc : List (D × D)} {us : List KdE} (h : KR K F acc us) : us.length = acc.length := h.1.length
theorem putKD_ky {acc : List (D × D)} {k d : D} (h : ∀ p ∈ acc, KyD p.1) (hk : KyD k) : ∀ p ∈ putKD acc k d, KyD p.1 := fun p hp => by
  unfold putKD at hp
  split at hp
  · obtain ⟨q, hq, rfl⟩ := List.mem_map.mp hp
    split
    · exact h q hq
    · exact h q hq
  · rcases List.mem_append.mp hp with z | z
    · exact h p z
    · cases List.mem_singleton.mp z; exact hk
theorem KR.put {K : PySem.W.Frag} {F : Hp} {acc : List (D × D)} {us : List KdE} {k d : D} {p : Addr} {v : V} (h : KR K F acc us) (hk : KyD k) (h1 : Rep K F k (.ref p)) (h2 : Rep K F d v) : KR K F (putKD acc k d) (putN us (nkD k) p v) := ⟨h.1.put h1 h2, putKD_ky h.2 hk⟩
theorem KR.own {K : PySem.W.Frag} {F H : Hp} {w : World} {p : Addr} {acc : List (D × D)} {us : List KdE} (h : KR K F acc us) (hp : H p = some (KdO w p us)) : Own K F H p (kdD w acc) := own_kdD h.1 hp
open Out (Rt)
open Out (Rt)
open Out (Rt)
open Out (Rt)
open Out (Rt)
theorem Wk.trans {a b c : Env2} (w : Wk a b) : Wk b c → Wk a c := by
  induction w generalizing c with
  | nil => intro v; cases v; exact .nil
  | no _ ih => intro v; cases v with
    | no v => exact .no (ih v)
    | eq v => exact .no (ih v)
  | eq _ ih => intro v; cases v with
    | no v => exact .no (ih v)
    | eq v => exact .eq (ih v)
open Out (Rt)
open Out (Rt)
def oneS (c : Chr) : S := ⟨⟨#[c.1]⟩, by unfold PyData.strOk; simp [c.2]⟩
open Out (Rt)
open Out (Rt)
open Out (Rt)
section
variable {X : Cy} {e a b c o : Expr} {es : List Expr} {st : Stmt} {sts rest : List Stmt} {r : Env2} {G : GD} {pos apos p0 : Pos} {D0 : EndsD}
def putAD (f : Str) (d : D) : List Str → List D → List D
  | g :: r, x :: ds => if g = f then d :: ds else x :: putAD f d r ds
  | _, _ => [d]
end
open Out (Rt)
section
variable {X : Cy} {e a b c o tg kx vx elt : Expr} {es ifs : List Expr} {st : Stmt} {sts rest body orelse : List Stmt} {r : Env2} {G : GD} {pos tpos apos cpos p0 : Pos} {D0 : EndsD} {α β γ σT ρ : Type}
def AtG (env : σT → Env2) (gg : σT → GD → Prop) (Q : σT → Prop) : Env2 → GD → Prop := fun r G => ∃ s, Wk r (env s) ∧ gg s G ∧ Q s
theorem wb_forOG (is : List Nat) (env : σT → Env2) (gg : σT → GD → Prop) (en : α → D) (hp : PassesOwn (model X.prog X.w) X.A X.env X.xe) (hc : X.calm = true)
    (h : WI X tg e r G fun ds r2 G1 => ∃ (xs : List α) (s0 : σT) (f : σT → α → Out σT) (kk : σT → Out β) (Q : β → Prop) (E : Xm → Prop), ds = xs.map en ∧ Wk r2 (env s0) ∧ gg s0 G1 ∧ ((Out.fold f xs s0).bind kk).sat Q E ∧
      (∀ (s : σT) (G : GD) (x : α) (Q' : σT → Prop), gg s G → (f s x).sat Q' E → WG X tg (en x) (env s) G is fun r4 G4 => WB X body r4 G4 { D0 with nx := AtG env gg Q', ct := AtG env gg Q', bk := fun r1 G1 => WB X rest r1 G1 D0 }) ∧
      ∀ s G, gg s G → (kk s).sat Q E → WB X rest (env s) G D0) (hs : ∀ x, foldedSetIterable e X.env x = pure x := by intro _; rfl) : WB X (.For tg e body [] pos :: rest) r G D0 :=
  wb_cons (ws_for (is := is) hp hc (h.mono fun ds r2 G1 ⟨xs, s0, f, kk, Q, E, hd, w0, hg, h0, hb, hn⟩ => by
    subst hd
    refine ⟨fun k r3 G3 => AtG env gg (fun s => ((Out.fold f (xs.drop k) s).bind kk).sat Q E) r3 G3, ⟨s0, w0, hg, h0⟩, fun k d r3 G3 hd ⟨s, w, hg, hq⟩ => ?_, fun r3 G3 ⟨s, w, hg, hq⟩ => ?_⟩
    · obtain ⟨x, hx, rfl⟩ := map_at hd
      rw [drop_at hx] at hq
      have hq' : (f s x).sat (fun s' => ((Out.fold f (xs.drop (k + 1)) s').bind kk).sat Q E) E := by
        have z : (((f s x).bind (Out.fold f (xs.drop (k + 1)))).bind kk).sat Q E := hq
        cases hf : f s x with
        | ok s' => rw [hf] at z; exact z
        | ex x' => rw [hf] at z; exact z
        | no => rw [hf] at z; exact z
      exact (hb s _ x _ hg hq').weak w
    · rw [List.length_map, List.drop_length] at hq
      exact (hn s _ hg hq).weak w) hs)
end
open Out (Rt)
abbrev As := List Addr → GD → Prop
structure AOk (P : As) : Prop where
  dom : ∀ fp G, P fp G → ∀ a ∈ fp, ∃ d, G a = some d
  loc : ∀ fp G G', P fp G → (∀ a ∈ fp, G' a = G a) → P fp G'
/-- what a step leaves: all else is as it was, what is new was not there -/
def Frm (fp : List Addr) (G : GD) (fp' : List Addr) (G' : GD) : Prop := (∀ b, b ∉ fp → G b ≠ none → G' b = G b) ∧ ∀ b ∈ fp', b ∈ fp ∨ G b = none
theorem Frm.refl (fp : List Addr) (G : GD) : Frm fp G fp G := ⟨fun _ _ _ => rfl, fun _ h => .inl h⟩
theorem Frm.trans {a b c : List Addr} {G G' G'' : GD} (h : Frm a G b G') (k : Frm b G' c G'') : Frm a G c G'' := by
  refine ⟨fun x hx hg => ?_, fun x hx => ?_⟩
  · have e := h.1 x hx hg
    have hb : x ∉ b := fun z => by
      rcases h.2 x z with y | y
      · exact hx y
      · exact hg y
    rw [k.1 x hb (by rw [e]; exact hg), e]
  · rcases k.2 x hx with y | y
    · exact h.2 x y
    · by_cases z : x ∈ a
      · exact .inl z
      · right
        cases e : G x with
        | none => rfl
        | some d =>
          have := h.1 x z (by rw [e]; exact fun w => nomatch w)
          rw [y, e] at this; cases this
def GS (Ps : List As) (G : GD) : Prop := ∃ fps : List (List Addr), fps.length = Ps.length ∧ (∀ (i : Nat) (P : As) (fp : List Addr), Ps[i]? = some P → fps[i]? = some fp → AOk P ∧ P fp G) ∧ ∀ (i j : Nat) (fp fq : List Addr), i ≠ j → fps[i]? = some fp → fps[j]? = some fq → ∀ a ∈ fp, a ∉ fq
theorem GS.nil (G : GD) : GS [] G := ⟨[], rfl, fun i P fp h => by simp at h, fun i j fp fq _ h => by simp at h⟩
/-- one of the parts is changed -/
theorem GS.at {Ps : List As} {G : GD} (h : GS Ps G) (i : Nat) {P : As} (hi : Ps[i]? = some P) : ∃ fp, AOk P ∧ P fp G ∧ ∀ (P' : As) (fp' : List Addr) (G' : GD), AOk P' → P' fp' G' → Frm fp G fp' G' → GS (Ps.set i P') G' := by
  obtain ⟨fps, h1, h2, h3⟩ := h
  have hlt : i < Ps.length := (List.getElem?_eq_some_iff.mp hi).1
  obtain ⟨fp, hfp⟩ : ∃ fp, fps[i]? = some fp := ⟨_, List.getElem?_eq_getElem (by omega)⟩
  obtain ⟨k1, k2⟩ := h2 i P fp hi hfp
  refine ⟨fp, k1, k2, fun P' fp' G' q1 q2 q3 => ⟨fps.set i fp', by rw [List.length_set, List.length_set, h1], fun j Q fq hQ hq => ?_, fun j l fq fr hjl hq hr a ha hb => ?_⟩⟩
  · by_cases e : i = j
    · subst e
      rw [List.getElem?_set_self hlt] at hQ
      rw [List.getElem?_set_self (by omega)] at hq
      cases hQ; cases hq; exact ⟨q1, q2⟩
    · rw [List.getElem?_set_ne e] at hQ hq
      obtain ⟨m1, m2⟩ := h2 j Q fq hQ hq
      refine ⟨m1, m1.loc fq G G' m2 fun a ha => q3.1 a (h3 j i fq fp (fun z => e z.symm) hq hfp a ha) ?_⟩
      obtain ⟨d, hd⟩ := m1.dom fq G m2 a ha
      rw [hd]; exact fun z => nomatch z
  · have out : ∀ (m : Nat) (fm : List Addr), m ≠ i → fps[m]? = some fm → ∀ x ∈ fm, x ∉ fp' := fun m fm hm hfm x hx hx' => by
      rcases q3.2 x hx' with y | y
      · exact h3 m i fm fp hm hfm hfp x hx y
      · have hml : m < Ps.length := by have := (List.getElem?_eq_some_iff.mp hfm).1; omega
        obtain ⟨m1, m2⟩ := h2 m _ fm (List.getElem?_eq_getElem hml) hfm
        obtain ⟨d, hd⟩ := m1.dom fm G m2 x hx
        rw [y] at hd; cases hd
    by_cases e : i = j
    · subst e
      rw [List.getElem?_set_self (by omega)] at hq
      rw [List.getElem?_set_ne hjl] at hr
      cases hq
      exact out l fr (fun z => hjl z.symm) hr a hb ha
    · rw [List.getElem?_set_ne e] at hq
      by_cases e2 : i = l
      · subst e2
        rw [List.getElem?_set_self (by omega)] at hr
        cases hr
        exact out j fq (fun z => e z.symm) hq a ha hb
      · rw [List.getElem?_set_ne e2] at hr
        exact h3 j l fq fr hjl hq hr a ha hb
/-- a new part -/
theorem GS.add {Ps : List As} {G : GD} (h : GS Ps G) {P : As} {fp : List Addr} {G' : GD} (k : AOk P) (hp : P fp G') (h1 : ∀ b, G b ≠ none → G' b = G b) (h2 : ∀ b ∈ fp, G b = none) : GS (Ps ++ [P]) G' := by
  obtain ⟨fps, k1, k2, k3⟩ := h
  have dom : ∀ (i : Nat) (fq : List Addr), fps[i]? = some fq → ∀ a ∈ fq, ∃ d, G a = some d := fun i fq hq a ha => by
    have hil : i < Ps.length := by have := (List.getElem?_eq_some_iff.mp hq).1; omega
    obtain ⟨m1, m2⟩ := k2 i _ fq (List.getElem?_eq_getElem hil) hq
    exact m1.dom fq G m2 a ha
  refine ⟨fps ++ [fp], by rw [List.length_append, List.length_append, k1]; rfl, fun i Q fq hQ hq => ?_, fun i j fq fr hij hq hr a ha hb => ?_⟩
  · by_cases hi : i < Ps.length
    · rw [List.getElem?_append_left hi] at hQ
      rw [List.getElem?_append_left (by omega)] at hq
      obtain ⟨m1, m2⟩ := k2 i Q fq hQ hq
      refine ⟨m1, m1.loc fq G G' m2 fun a ha => h1 a ?_⟩
      obtain ⟨d, hd⟩ := m1.dom fq G m2 a ha
      rw [hd]; exact fun z => nomatch z
    · have : i = Ps.length := by have := (List.getElem?_eq_some_iff.mp hQ).1; rw [List.length_append] at this; simp at this; omega
      subst this
      rw [List.getElem?_append_right (Nat.le_refl _), Nat.sub_self] at hQ
      rw [← k1, List.getElem?_append_right (Nat.le_refl _), Nat.sub_self] at hq
      cases hQ; cases hq; exact ⟨k, hp⟩
  · have cs : ∀ (m : Nat) (fm : List Addr), (fps ++ [fp])[m]? = some fm → fps[m]? = some fm ∨ (m = fps.length ∧ fm = fp) := fun m fm hm => by
      by_cases hl : m < fps.length
      · rw [List.getElem?_append_left hl] at hm; exact .inl hm
      · have : m = fps.length := by have := (List.getElem?_eq_some_iff.mp hm).1; rw [List.length_append] at this; simp at this; omega
        subst this
        rw [List.getElem?_append_right (Nat.le_refl _), Nat.sub_self] at hm
        cases hm; exact .inr ⟨rfl, rfl⟩
    rcases cs i fq hq with z | ⟨z1, z2⟩
    · rcases cs j fr hr with y | ⟨y1, y2⟩
      · exact k3 i j fq fr hij z y a ha hb
      · subst y2
        obtain ⟨d, hd⟩ := dom i fq z a ha
        rw [h2 a hb] at hd; cases hd
    · subst z2
      rcases cs j fr hr with y | ⟨y1, y2⟩
      · obtain ⟨d, hd⟩ := dom j fr y a hb
        rw [h2 a ha] at hd; cases hd
      · exact hij (by omega)
theorem GS.take {Ps : List As} {G : GD} (h : GS Ps G) (n : Nat) : GS (Ps.take n) G := by
  obtain ⟨fps, k1, k2, k3⟩ := h
  refine ⟨fps.take n, by rw [List.length_take, List.length_take, k1], fun i P fp hP hf => ?_, fun i j fp fq hij hf hq => ?_⟩
  · rw [List.getElem?_take] at hP hf
    split at hP
    · rename_i hi
      rw [if_pos hi] at hf
      exact k2 i P fp hP hf
    · cases hP
  · rw [List.getElem?_take] at hf hq
    split at hf
    · split at hq
      · exact k3 i j fp fq hij hf hq
      · cases hq
    · cases hf
inductive Fld where
  | sh (d : D) | mo (d : D)
/-- an own list -/
abbrev Fld.mu (ds : List D) : Fld := .mo (.lst ds)
inductive FL (G : GD) : List Fld → List D → List Addr → Prop
  | nil : FL G [] [] []
  | sh {d : D} {fs : List Fld} {ds : List D} {as : List Addr} (h : FL G fs ds as) : FL G (.sh d :: fs) (d :: ds) as
  | mo {d : D} {a : Addr} {fs : List Fld} {ds : List D} {as : List Addr} (ha : G a = some d) (h : FL G fs ds as) : FL G (.mo d :: fs) (.adr a :: ds) (a :: as)
theorem FL.loc {G G' : GD} {fs : List Fld} {ds : List D} {as : List Addr} (h : FL G fs ds as) (k : ∀ a ∈ as, G' a = G a) : FL G' fs ds as := by
  induction h with
  | nil => exact .nil
  | sh _ ih => exact .sh (ih k)
  | mo ha _ ih => exact .mo (by rw [k _ List.mem_cons_self]; exact ha) (ih fun a h => k a (List.mem_cons_of_mem _ h))
theorem FL.dom {G : GD} {fs : List Fld} {ds : List D} {as : List Addr} (h : FL G fs ds as) : ∀ a ∈ as, ∃ d, G a = some d := by
  induction h with
  | nil => intro a h; cases h
  | sh _ ih => exact ih
  | mo ha _ ih =>
    intro a h
    rcases List.mem_cons.mp h with rfl | h
    · exact ⟨_, ha⟩
    · exact ih a h
theorem FL.len {G : GD} {fs : List Fld} {ds : List D} {as : List Addr} (h : FL G fs ds as) : fs.length = ds.length := by
  induction h with
  | nil => rfl
  | sh _ ih => rw [List.length_cons, List.length_cons, ih]
  | mo _ _ ih => rw [List.length_cons, List.length_cons, ih]
def obA (C o : Addr) (ns : List Str) (fs : List Fld) : As := fun fp G => ∃ ds as, fp = o :: as ∧ (o :: as).Nodup ∧ ns.length = fs.length ∧ G o = some (.obj C ns ds) ∧ FL G fs ds as
/-- a field that is shared data is read -/
theorem FL.get {G : GD} : ∀ {fs : List Fld} {ds : List D} {as : List Addr}, FL G fs ds as → ∀ {ns : List Str} {f : Str} {d : D}, (ns.zip fs).lookup f = some (.sh d) → (ns.zip ds).lookup f = some d
  | _, _, _, .nil, ns, f, d, h => by cases ns <;> simp at h
  | _, _, _, .sh k, [], f, d, h => by simp at h
  | _, _, _, .mo _ k, [], f, d, h => by simp at h
  | _, _, _, .sh k, n :: ns, f, d, h => by
    rw [List.zip_cons_cons, List.lookup_cons] at h ⊢
    cases e : f == n with
    | true => rw [e] at h; cases h; rfl
    | false => rw [e] at h; exact k.get h
  | _, _, _, .mo _ k, n :: ns, f, d, h => by
    rw [List.zip_cons_cons, List.lookup_cons] at h ⊢
    cases e : f == n with
    | true => rw [e] at h; cases h
    | false => rw [e] at h; exact k.get h
/-- fields with a new one -/
def putFl (f : Str) (x : Fld) : List Str → List Fld → List Fld
  | g :: r, y :: fs => if g = f then x :: fs else y :: putFl f x r fs
  | _, _ => [x]
/-- a list of an own field is known by its address; it may be changed -/
theorem FL.mutD {G : GD} : ∀ {fs : List Fld} {ds : List D} {as : List Addr}, FL G fs ds as → as.Nodup → ∀ {ns : List Str} {f : Str} {l : D}, (ns.zip fs).lookup f = some (.mo l) → ∃ a ∈ as, (ns.zip ds).lookup f = some (.adr a) ∧ G a = some l ∧ ∀ l', FL (updG G a l') (putFl f (.mo l') ns fs) ds as
  | _, _, _, .nil, _, ns, f, l, h => by cases ns <;> simp at h
  | _, _, _, .sh k, _, [], f, l, h => by simp at h
  | _, _, _, .mo _ k, _, [], f, l, h => by simp at h
  | _, _, _, .sh (d := d) k, hn, n :: ns, f, l, h => by
    rw [List.zip_cons_cons, List.lookup_cons] at h
    cases e : f == n with
    | true => rw [e] at h; cases h
    | false =>
      rw [e] at h
      obtain ⟨a, ha, h1, h2, h3⟩ := k.mutD hn h
      refine ⟨a, ha, by rw [List.zip_cons_cons, List.lookup_cons, e]; exact h1, h2, fun l' => ?_⟩
      unfold putFl
      rw [if_neg (fun z => by rw [z, beq_self_eq_true] at e; cases e)]
      exact .sh (h3 l')
  | _, _, _, .mo (a := a0) ha0 k, hn, n :: ns, f, l, h => by
    obtain ⟨n1, n2⟩ := List.nodup_cons.mp hn
    rw [List.zip_cons_cons, List.lookup_cons] at h
    cases e : f == n with
    | true =>
      rw [e] at h; cases h
      refine ⟨a0, List.mem_cons_self, by rw [List.zip_cons_cons, List.lookup_cons, e], ha0, fun l' => ?_⟩
      unfold putFl
      rw [if_pos (eq_of_beq e).symm]
      exact .mo updG_same (k.loc fun b hb => updG_ne fun z => n1 (z ▸ hb))
    | false =>
      rw [e] at h
      obtain ⟨a, ha, h1, h2, h3⟩ := k.mutD n2 h
      refine ⟨a, List.mem_cons_of_mem _ ha, by rw [List.zip_cons_cons, List.lookup_cons, e]; exact h1, h2, fun l' => ?_⟩
      unfold putFl
      rw [if_neg (fun z => by rw [z, beq_self_eq_true] at e; cases e)]
      have hne : a0 ≠ a := fun z => n1 (by rw [z]; exact ha)
      exact .mo (by rw [updG_ne hne]; exact ha0) (h3 l')
theorem FL.mut {G : GD} {fs : List Fld} {ds : List D} {as : List Addr} (h : FL G fs ds as) (hn : as.Nodup) {ns : List Str} {f : Str} {l : List D} (hl : (ns.zip fs).lookup f = some (.mu l)) : ∃ a ∈ as, (ns.zip ds).lookup f = some (.adr a) ∧ G a = some (.lst l) ∧ ∀ l', FL (updG G a (.lst l')) (putFl f (.mu l') ns fs) ds as := by
  obtain ⟨a, h1, h2, h3, h4⟩ := h.mutD hn hl
  exact ⟨a, h1, h2, h3, fun l' => h4 _⟩
/-- a field gets shared data, or a list that is new -/
theorem FL.put {G : GD} : ∀ {fs : List Fld} {ds : List D} {as : List Addr}, FL G fs ds as → as.Nodup → ∀ {ns : List Str}, ns.length = fs.length → ∀ (f : Str) (x : Fld) (dx : D) (ax : List Addr), FL G [x] [dx] ax → (∀ a ∈ ax, a ∉ as) → ∃ bs, FL G (putFl f x ns fs) (putAD f dx ns ds) bs ∧ bs.Nodup ∧ ∀ a ∈ bs, a ∈ as ∨ a ∈ ax
  | _, _, _, .nil, _, [], _, f, x, dx, ax, hx, _ => ⟨ax, hx, by
      cases hx with
      | sh h => cases h; exact List.nodup_nil
      | mo _ h => cases h; simp, fun a h => .inr h⟩
  | _, _, _, .nil, _, _ :: _, hl, _, _, _, _, _, _ => nomatch hl
  | _, _, _, .sh _, _, [], hl, _, _, _, _, _, _ => nomatch hl
  | _, _, _, .mo _ _, _, [], hl, _, _, _, _, _, _ => nomatch hl
  | _, _, _, .sh (as := as) k, hn, n :: ns, hl, f, x, dx, ax, hx, hd => by
    unfold putFl putAD
    by_cases e : n = f
    · rw [if_pos e, if_pos e]
      cases hx with
      | sh h => cases h; exact ⟨as, .sh k, hn, fun a h => .inl h⟩
      | mo ha h =>
        cases h
        rename_i a0
        exact ⟨a0 :: as, .mo ha k, List.nodup_cons.mpr ⟨hd a0 (by simp), hn⟩, fun a h => by
          rcases List.mem_cons.mp h with rfl | h
          · exact .inr (by simp)
          · exact .inl h⟩
    · rw [if_neg e, if_neg e]
      obtain ⟨bs, b1, b2, b3⟩ := k.put hn (Nat.succ.inj hl) f x dx ax hx hd
      exact ⟨bs, .sh b1, b2, b3⟩
  | _, _, _, .mo (as := as) (a := a1) ha1 k, hn, n :: ns, hl, f, x, dx, ax, hx, hd => by
    obtain ⟨n1, n2⟩ := List.nodup_cons.mp hn
    have hd' : ∀ a ∈ ax, a ∉ as := fun a h z => hd a h (List.mem_cons_of_mem _ z)
    unfold putFl putAD
    by_cases e : n = f
    · rw [if_pos e, if_pos e]
      cases hx with
      | sh h => cases h; exact ⟨as, .sh k, n2, fun a h => .inl (List.mem_cons_of_mem _ h)⟩
      | mo ha h =>
        cases h
        rename_i a0
        exact ⟨a0 :: as, .mo ha k, List.nodup_cons.mpr ⟨hd' a0 (by simp), n2⟩, fun a h => by
          rcases List.mem_cons.mp h with rfl | h
          · exact .inr (by simp)
          · exact .inl (List.mem_cons_of_mem _ h)⟩
    · rw [if_neg e, if_neg e]
      obtain ⟨bs, b1, b2, b3⟩ := k.put n2 (Nat.succ.inj hl) f x dx ax hx hd'
      refine ⟨a1 :: bs, .mo ha1 b1, List.nodup_cons.mpr ⟨fun z => ?_, b2⟩, fun a h => ?_⟩
      · rcases b3 a1 z with y | y
        · exact n1 y
        · exact hd a1 y List.mem_cons_self
      · rcases List.mem_cons.mp h with rfl | h
        · exact .inl List.mem_cons_self
        · exact (b3 a h).imp (List.mem_cons_of_mem _) id
open Out (Rt)
section
variable {X : Cy} {e a b c o : Expr} {es : List Expr} {st : Stmt} {sts rest : List Stmt} {r : Env2} {G : GD} {pos apos p0 : Pos} {D0 : EndsD} {σT A R : Type}
theorem obA.own {C p : Addr} {ns : List Str} {fs : List Fld} {fp : List Addr} (h : obA C p ns fs fp G) : ∃ ds, G p = some (.obj C ns ds) := let ⟨ds, _, _, _, _, h1, _⟩ := h; ⟨ds, h1⟩
theorem FL.frz {G : GD} : ∀ {fs : List Fld} {ds : List D} {as : List Addr}, FL G fs ds as → as.Nodup → ∀ {ns : List Str} {f : Str} {l : List D}, (ns.zip fs).lookup f = some (.mu l) → ∀ (d : D), ∃ a ∈ as, (ns.zip ds).lookup f = some (.adr a) ∧ G a = some (.lst l) ∧ ∃ bs, FL G (putFl f (.sh d) ns fs) (putAD f d ns ds) bs ∧ bs.Nodup ∧ (∀ b ∈ bs, b ∈ as) ∧ a ∉ bs
  | _, _, _, .nil, _, ns, f, l, h, _ => by cases ns <;> simp at h
  | _, _, _, .sh k, _, [], f, l, h, _ => by simp at h
  | _, _, _, .mo _ k, _, [], f, l, h, _ => by simp at h
  | _, _, _, .sh (d := d0) k, hn, n :: ns, f, l, h, d => by
    rw [List.zip_cons_cons, List.lookup_cons] at h
    cases e : f == n with
    | true => rw [e] at h; cases h
    | false =>
      rw [e] at h
      obtain ⟨a, ha, h1, h2, bs, h3, h4, h5, h6⟩ := k.frz hn h d
      refine ⟨a, ha, by rw [List.zip_cons_cons, List.lookup_cons, e]; exact h1, h2, bs, ?_, h4, h5, h6⟩
      unfold putFl putAD
      rw [if_neg (fun z => by rw [z, beq_self_eq_true] at e; cases e), if_neg (fun z => by rw [z, beq_self_eq_true] at e; cases e)]
      exact .sh h3
  | _, _, _, .mo (a := a0) (as := as) ha0 k, hn, n :: ns, f, l, h, d => by
    obtain ⟨n1, n2⟩ := List.nodup_cons.mp hn
    rw [List.zip_cons_cons, List.lookup_cons] at h
    cases e : f == n with
    | true =>
      rw [e] at h; cases h
      refine ⟨a0, List.mem_cons_self, by rw [List.zip_cons_cons, List.lookup_cons, e], ha0, as, ?_, n2, fun b hb => List.mem_cons_of_mem _ hb, n1⟩
      unfold putFl putAD
      rw [if_pos (eq_of_beq e).symm, if_pos (eq_of_beq e).symm]
      exact .sh k
    | false =>
      rw [e] at h
      obtain ⟨a, ha, h1, h2, bs, h3, h4, h5, h6⟩ := k.frz n2 h d
      refine ⟨a, List.mem_cons_of_mem _ ha, by rw [List.zip_cons_cons, List.lookup_cons, e]; exact h1, h2, a0 :: bs, ?_, List.nodup_cons.mpr ⟨fun z => n1 (h5 _ z), h4⟩, fun b hb => ?_, fun z => ?_⟩
      · unfold putFl putAD
        rw [if_neg (fun z => by rw [z, beq_self_eq_true] at e; cases e), if_neg (fun z => by rw [z, beq_self_eq_true] at e; cases e)]
        exact .mo ha0 h3
      · rcases List.mem_cons.mp hb with rfl | hb
        · exact List.mem_cons_self
        · exact List.mem_cons_of_mem _ (h5 b hb)
      · rcases List.mem_cons.mp z with z | z
        · exact n1 (z ▸ ha)
        · exact h6 z
end
open Out (Rt)
section
variable {X : Cy} {e a b c o : Expr} {es : List Expr} {st : Stmt} {sts rest : List Stmt} {r : Env2} {G : GD} {pos apos cpos p0 : Pos} {D0 : EndsD} {σT A R α : Type} {cx : Nat → Addr}
theorem WA.mono {Q Q' : List D → Env2 → GD → Prop} (h : WA X es r G Q) (k : ∀ x r' G', Q x r' G' → Q' x r' G') : WA X es r G Q' := fun F0 T F H σ lk S =>
  (h F0 T F H σ lk S).mono fun _ _ ⟨x, r', G', F', a, b, c, q⟩ => ⟨x, r', G', F', a, b, c, k _ _ _ q⟩
end
open Out (Rt)
open Out (Rt)
open Out (Rt)
open Out (Rt)
open Out (Rt)
def bhA (b g : Addr) (x : Bh) : As := fun fp G => fp = [b, g] ∧ g ≠ b ∧ G b = some (.lst [.int x.1.2.1, .adr g, .int x.1.2.2]) ∧ G g = some (.lst (x.1.1.map D.int))
theorem bhA_ok (b g : Addr) (x : Bh) : AOk (bhA b g x) := by
  refine ⟨?_, ?_⟩
  · rintro fp G ⟨rfl, _, h1, h2⟩ a ha
    rcases List.mem_cons.mp ha with rfl | ha
    · exact ⟨_, h1⟩
    · rw [List.mem_singleton] at ha; subst ha; exact ⟨_, h2⟩
  · rintro fp G G' ⟨rfl, hn, h1, h2⟩ h
    exact ⟨rfl, hn, by rw [h b (by simp)]; exact h1, by rw [h g (by simp)]; exact h2⟩
theorem GS.boxH0 {G0 : GD} {b g : Addr} (hn : g ≠ b) (x : Bh) : GS [bhA b g x] (bxH G0 b g x) := by
  refine ⟨[[b, g]], rfl, fun i P fp h h' => ?_, fun i j fp fq hij h h' => ?_⟩
  · cases i with
    | zero => cases h; cases h'; exact ⟨bhA_ok b g x, rfl, hn, updG_same, by unfold bxH; rw [updG_ne hn, updG_same]⟩
    | succ i => simp at h
  · cases i with
    | zero => cases j with
      | zero => exact absurd rfl hij
      | succ j => simp at h'
    | succ i => simp at h
/-- the table of a law's own code is a part, too -/
def tabA (P : Addr) (q : Str) : As := fun fp G => fp = [P] ∧ G P = some (.tab q)
theorem GS.tab {Ps : List As} {G : GD} (h : GS Ps G) (i : Nat) {P : Addr} {q : Str} (hi : Ps[i]? = some (tabA P q)) : G P = some (.tab q) := by
  obtain ⟨fp, _, h1, _⟩ := h.at i hi
  exact h1.2
open Out (Rt)
section
open PySem.W PySem.Calls PySem.HandSPX Builtin Builtin.ObjectAttr
section
variable {M : Model} {A : Around} {E : Value → Shared → Prop} {h : Heap} {g : Array GenState} {d : Drawn} {t : Nat} {os : OsState}
variable {nm q : Str} {C N : Addr} {bs bm bmB : List Value} {hdct : Bool} {sn : List Str} {sub : List Value} {ab : Bool} {col : Option Bool} {dd : Option Addr} {k0 k1 k2 k3 k5 : Option Value} {B newId initId : String} {kw : List (Str × Value)}
theorem ck_newK (F : ExcBaseFacts B newId initId bmB) (hT : ∀ X : String, bm.contains (.type X) = bmB.contains (.type X)) {Q : Unit → Shared → Prop}
    (hC : h.get? C = some (excClassObj nm q C N bs bm hdct sn sub ab col dd k0 k1 k2 k3 k5 newId)) (hq : Q () ⟨h, g, d, t, os⟩) : wpAny M A (checkBuiltinCall newId ⟨[.ref C], kw⟩) Q E ⟨h, g, d, t, os⟩ := by
  have hc : (Value.ref C :: bm).contains (.type B) = true := by rw [List.contains_cons, hT, F.hasB, Bool.or_true]
  have hs := F.noStar
  simp only [checkBuiltinCall, F.newKind, F.newSplit, F.newRow]
  repeat (first | refine wpAny_loadPart_at hC ?_ | (refine wpAny_isSubtype_exc hC ?_; rw [hc]) | refine wpAny_staticBase_exc hC ?_ | refine wpAny_madeBy_exc hC ?_ | simp only [bne_self_eq_false, Bool.false_eq_true, if_false] | wp_step)
  exact hq
theorem ck_typeK (hC : h.get? C = some (excClassObj nm q C N bs bm hdct sn sub ab col dd k0 k1 k2 k3 k5 newId)) {Q : Unit → Shared → Prop} (hq : Q () ⟨h, g, d, t, os⟩) : wpAny M A (checkBuiltinCall "type.__call__" ⟨[.ref C], kw⟩) Q E ⟨h, g, d, t, os⟩ := by
  have f3 := tc_sub
  have hT : (⟨h, g, d, t, os⟩ : Shared).TypeIs (.ref C) "type" := ⟨_, hC, rfl⟩
  simp only [checkBuiltinCall, tc_kind, tc_split]
  repeat (any_goals (first | assumption | with_reducible refine wpAny_loadPart_at hC ?_ | with_reducible refine wpAny_onRaise ?_ | with_reducible refine wpAny_map ?_ | wp_step))
end
section
variable {prog : Program} {w : World} {A : Around} {E : Value → Shared → Prop} {R : Result → Shared → Prop} {h : Heap} {g : Array GenState} {d : Drawn} {t : Nat} {os : OsState}
variable {nm q : Str} {C N : Addr} {bs bm bmB : List Value} {hdct : Bool} {sn : List Str} {sub : List Value} {ab : Bool} {col : Option Bool} {dd : Option Addr} {k0 k1 k2 k3 k5 : Option Value} {B newId initId : String} {kw : List (Str × Value)}
theorem newK (F : ExcBaseFacts B newId initId bmB) (hT : ∀ X : String, bm.contains (.type X) = bmB.contains (.type X))
    (hC : h.get? C = some (excClassObj nm q C N bs bm hdct sn sub ab col dd k0 k1 k2 k3 k5 newId)) (hq : R (.ok (.ret (.ref (h.objs.size + 1)))) ⟨(h.push (kdv_tup [])).push (excO C h.objs.size), g, d, t, os⟩) :
    codeAny (model prog w) A (.builtin newId ⟨[.ref C], kw⟩) R ⟨h, g, d, t, os⟩ := by
  have he := F.ends
  have c1 : (Value.ref C :: bm).contains (.type B) = true := by rw [List.contains_cons, hT, F.hasB, Bool.or_true]
  have c2 : (Value.ref C :: bm).contains (.type "AttributeError") = false := by rw [List.contains_cons, hT, F.noAttr]; rfl
  have c3 : (Value.ref C :: bm).contains (.type "NameError") = false := by rw [List.contains_cons, hT, F.noName]; rfl
  refine codeAny_builtinAt F.entry ?_
  unfold Builtin.«BaseException.__new__»
  refine _root_.PySem.wpAt_bind ?_
  show _root_.PySem.wpAt _ _ _ (stack >>= _) _ _ _
  refine _root_.PySem.wpAt_bind (_root_.PySem.wpAt_stack fun p below => _root_.PySem.wpAt_of_wpAny ?_)
  wp_walk
  refine _root_.PySem.wpAt_of_wpAny ?_
  rw [F.owner]
  repeat (first | with_reducible refine wpAny_madeHere_exc F.canon hC ?_ | with_reducible refine wpAny_loadPart_at hC ?_ | (with_reducible refine wpAny_isSubtype_exc hC ?_; first | rw [c1] | rw [c2] | rw [c3]) | wp_step)
  show R _ _
  rw [Heap.size_push]
  exact hq
theorem typeK (F : ExcBaseFacts B newId initId bmB) (hT : ∀ X : String, bm.contains (.type X) = bmB.contains (.type X)) {fI : Addr} {Q : Fin → Shared → Prop}
    (hC : h.get? C = some (excClassObj nm q C N bs bm hdct sn sub ab col dd k0 k1 k2 k3 k5 newId))
    (hi : W.Looks (model prog w) h (typeLookup (.ref C) "__init__") (some (.ref fI))) (hb : ∀ self, W.Looks (model prog w) h (bindSpecial (.ref fI) self) (.ref fI, [self]))
    (hq : codeAny (model prog w) A (.call (.ref fI) ⟨[.ref (h.objs.size + 1)], kw⟩)
      (fun r s' => match r with | .ok (.ret v) => v = .none ∧ Q (.done (.ret (.ref (h.objs.size + 1)))) s' | .ok _ => False | .error e => E e s')
      ⟨(h.push (kdv_tup [])).push (excO C h.objs.size), g, d, t, os⟩) :
    wpAny (model prog w) A (Builtin.«type.__call__» ⟨[.ref C], kw⟩) Q E ⟨h, g, d, t, os⟩ := by
  repeat (first | with_reducible refine wpAny_loadPart_at hC ?_ | with_reducible refine wpAny_madeBy_exc hC ?_ | wp_step)
  refine codeAny_call_builtin_code (Code.quiet_builtin _ F.quiet) (ck_newK F hT hC ?_)
  refine newK F hT hC ?_
  show wpAny _ _ _ _ _ _
  have k : ∀ b o, h.get? b = some o → ((h.push (kdv_tup [])).push (excO C h.objs.size)).get? b = some o := fun b o e => Heap.get?_push_of_some _ (Heap.get?_push_of_some _ e)
  have hC1 := k _ _ hC
  have hget : ((h.push (kdv_tup [])).push (excO C h.objs.size)).get? (h.objs.size + 1) = some (excO C h.objs.size) := by heap_get
  have hcC : (Value.ref C :: bm).contains (.ref C) = true := by simp
  have i1 := hi.keeps k
  have b1 := (hb (.ref (h.objs.size + 1))).keeps k
  unfold isInstance
  repeat (first | with_reducible refine wpAny_loadPart_at hget ?_ | (with_reducible refine wpAny_isSubtype_exc hC1 ?_; rw [hcC]) | wp_step)
  show wpAny _ _ (typeLookup (.ref C) _) _ _ _
  refine i1.at ?_
  refine wpAny_holding (wpAny_bind (b1.at ?_))
  refine wpAny_bind (wpAny_call (codeAny_mono hq fun r s' z => ?_))
  rcases r with e | (v | _ | _ | _) <;> first | exact z | exact z.elim | skip
  obtain ⟨rfl, z⟩ := z
  first
    | exact wpAny_pure (wpAny_pure z)
    | (wp_walk; exact z)
theorem callK (F : ExcBaseFacts B newId initId bmB) (hT : ∀ X : String, bm.contains (.type X) = bmB.contains (.type X)) {fI : Addr}
    (hC : h.get? C = some (excClassObj nm q C N bs bm hdct sn sub ab col dd k0 k1 k2 k3 k5 newId))
    (hi : W.Looks (model prog w) h (typeLookup (.ref C) "__init__") (some (.ref fI))) (hb : ∀ self, W.Looks (model prog w) h (bindSpecial (.ref fI) self) (.ref fI, [self]))
    (hq : codeAny (model prog w) (A.under (.builtin "type.__call__" ⟨[.ref C], kw⟩)) (.call (.ref fI) ⟨[.ref (h.objs.size + 1)], kw⟩) (W.InitBack (h.objs.size + 1) R)
      ⟨(h.push (kdv_tup [])).push (excO C h.objs.size), g, d, t, os⟩) :
    codeAny (model prog w) A (.call (.ref C) ⟨[], kw⟩) R ⟨h, g, d, t, os⟩ := by
  have f1 := tc_lookup
  have f2 := tc_bind (.ref C)
  have hTy : (⟨h, g, d, t, os⟩ : Shared).TypeIs (.ref C) "type" := ⟨_, hC, rfl⟩
  refine codeAny_of_tree ?_
  show wpAny _ _ (callAny (.ref C) _) _ _ _
  repeat (any_goals (first | assumption | with_reducible refine wpAny_loadPart_at hC ?_ | wp_step))
  refine ⟨rfl, ?_⟩
  refine codeAny_call_builtin_at (Code.quiet_builtin _ (by decide +kernel)) entry_typeCall (ck_typeK hC (typeK F hT hC hi hb ?_))
  refine codeAny_mono hq fun r s' z => ?_
  rcases r with e | (v | _ | _ | _) <;> first | exact z | skip
end
section
variable {prog : Program} {w : World} {A : Around} {E : Value → Shared → Prop} {base : Heap} {K : Frag} {mg mb m : Str → Option Value}
/-- what is known of the def -/
structure XiF (P : Program) (K : Frag) (q : Str) (scope : Scope) (C f cc cda : Addr) (fd : FuncData) : Prop where
  sup : ks_superIn K C C "__init__" = some (some (.builtin "ValueError.__init__"))
  self : mroIn K C (.ref C) = some true
  isV : subIn K (.ref C) (.type "ValueError") = some true
  any : nsIn K cStatics "thirdparty.any" = some none
  fn : ∃ oc od osl, K.lookup f = some ⟨oc, od, .func fd, osl⟩
  par : ∃ ar : Arg, (fd.params.posonlyargs ++ fd.params.args).head? = some ar ∧ ar.arg = "self"
  code : ∃ ccl cdd vs ccs file tf, K.lookup cda = some ⟨ccl, cdd, .fields vs, ccs⟩ ∧ vs[2]? = some (.str file tf) ∧ ((P.main.file : Str) == file) = true
  cell : ∃ cl cld csl, K.lookup cc = some ⟨cl, cld, .cell (some (.ref C)), csl⟩
  hks : scope.names.lookup ("super" : Str) = some .globalImplicit
  hkc : scope.names.lookup ("__class__" : Str) = some .free
  hkl : scope.names.lookup ("self" : Str) = some .local
  kind : scope.kind = .function
  top : (P.main.scope.names.lookup ("super" : Str)).isSome = false
theorem sup_run {body : List Stmt} {q : Str} {scope : Scope} {C f cc cda L x t0 : Addr} {fd : FuncData} {hp : Heap} {g : Array GenState} {d : Drawn} {t : Nat} {os : OsState} {msg : Str} {j : Nat} {p0 p1 p2 p3 p4 p5 : Pos} {Q : Flow → Shared → Prop}
    (T : L2.OexC K C) (Fa : XiF prog K q scope C f cc cda fd) (KI : K.In base) (hg : base.Ns mainGlobals mg) (hms : mg "super" = none) (hb : base.Ns builtinsNs mb) (hbb : ∀ y : Str, y ≠ "__name__" → mb y = bootBuiltins y)
    (hi : interactive (ksEnv q scope L f (.ref cda) cc) = false) (he : ∃ pl, eval (.Call (.Attribute (.Call (.Name "super" p0) [] [] p1) "__init__" p2) [.Constant (.str msg) j p3] [] p4) (ksEnv q scope L f (.ref cda) cc) = (do
      let ov ← attributeBase (.Call (.Name "super" p0) [] [] p1) "__init__" (ksEnv q scope L f (.ref cda) cc) (eval (.Call (.Name "super" p0) [] [] p1) (ksEnv q scope L f (.ref cda) cc))
      standAt p2.atName
      let (fv, first) ← holding [ov] (getMethod ov "__init__" pl)
      callWith p4 fv first (backTo p4 (starEach [.Constant (.str msg) j p3] (ksEnv q scope L f (.ref cda) cc))) []))
    (k : ∀ b o, base.get? b = some o → hp.get? b = some o) (hns : hp.Ns L m) (hv : m "self" = some (.ref x)) (hx : hp.get? x = some (excO C t0))
    (hq : ∀ (h' : Heap) (t1 : Addr) (tk : Nat), (∀ b o, b ≠ x → hp.get? b = some o → h'.get? b = some o) → h'.get? x = some (excO C t1) → Q .next ⟨h', g, d, tk, os⟩) :
    _root_.PySem.wpAt (model prog w) A (.func body (ksEnv q scope L f (.ref cda) cc)) (exec (.Expr (.Call (.Attribute (.Call (.Name "super" p0) [] [] p1) "__init__" p2) [.Constant (.str msg) j p3] [] p4) p5) (ksEnv q scope L f (.ref cda) cc)) Q E ⟨hp, g, d, t, os⟩ := by
  have X : K.In hp := KI.keeps k
  obtain ⟨oc, od, osl, hfn⟩ := Fa.fn
  obtain ⟨ar, har, harg⟩ := Fa.par
  obtain ⟨ccl, cdd, vs, ccs, file, tf, hcode, hvs, hfile⟩ := Fa.code
  obtain ⟨cl, cld, csl, hcell⟩ := Fa.cell
  obtain ⟨nm, q', N, bs, bm, sn, sub, ab, col, dd, k0, k1, k2, k3, k5, hC, hbm⟩ := T.cls
  have hCg := X _ _ hC
  obtain ⟨pl, he⟩ := he
  refine ks_wpAt_Expr_any (ks_wpAt_MethodCall (pl := pl) ?_ he) hi
  refine ks_wpAt_super_base (env := ksEnv q scope L f (.ref cda) cc) Fa.hks Fa.hkc (by decide) rfl (X _ _ hfn) rfl har rfl (X _ _ hcode) rfl hvs hfile Fa.top ?_
  refine ks_loadName_global Fa.kind Fa.hks (loadGlobal_builtin (env := ksEnv q scope L f (.ref cda) cc) (hg.keeps k) hms (hb.keeps k) ((hbb _ (by decide)).trans Boot.«super») ⟨rfl, ?_⟩)
  refine wpAny_loadName_free Fa.kind Fa.hkc rfl ⟨_, X _ _ hcell, rfl⟩ ?_
  rw [harg]
  refine wpAny_loadName_local Fa.kind Fa.hkl hns hv ?_
  refine ks_wpAny_isType_cls hCg rfl ⟨rfl, ?_⟩
  refine ks_wpAny_call_super hCg rfl hx rfl (fun c e => by cases e) (looks_mroIn X Fa.self) (fun h2 e2 k2 => ?_)
  have X2 : K.In h2 := X.keeps k2
  have hx2 := k2 _ _ hx
  have I2 : InstAt h2 x (excO C t0) C none := ⟨hx2, rfl, rfl, trivial⟩
  have hI : Looks (model prog w) h2 (isInstance (.ref x) (.type "ValueError")) true := I2.type.andThen (looks_subIn X2 Fa.isV)
  have hm := Fa.sup
  cases hcd : clsIn K C with
  | none => unfold ks_superIn at hm; rw [hcd] at hm; cases hm
  | some cd =>
    unfold ks_superIn at hm
    rw [hcd] at hm
    refine kxs_getMethod kxs_ValueError e2 (looks_opaque X2 Fa.any) (l₀ := cd.mro) (fun A Q E s k q => wpAny_bind ((looks_clsIn X2 hcd) A _ E s k (wpAny_pure q))) rfl X2 hm hI (ks_ne X2 I2 hcd) (by decide) ?_
    dsimp only
    refine kxs_callWith (i := "ValueError.__init__") (x := x) (by rfl) (evalArgs_plain ?_)
    show wpAny _ _ (spliced ((false, eval (.Constant (.str msg) j p3) (ksEnv q scope L f (.ref cda) cc)) :: backTo p4 (starEach [] (ksEnv q scope L f (.ref cda) cc)))) _ _ _
    refine spliced_cons (wpAny_Constant_str (spliced_nil ⟨?_, ?_⟩))
    · exact Heap.get?_push_at rfl rfl
    · refine wpAny_call (codeAny_of_tree ?_)
      show wpAny _ A.in1 (callAny (.ref _) ⟨_, []⟩) _ _ _
      simp only [callAny]
      refine wpAny_bind (wpAny_load (Heap.get?_push_at rfl rfl) ?_)
      simp only [kxs_mw, show (Value.type "method-wrapper" == Value.type "method" || Value.type "method-wrapper" == Value.type "builtin_function_or_method" || Value.type "method-wrapper" == Value.type "method-wrapper") = true by decide, if_true]
      refine KFB.if_so (by decide) ?_
      have kk : ∀ b o, h2.get? b = some o → (h2.push (kxs_mw "ValueError.__init__" x)).get? b = some o := fun b o e => Heap.get?_push_of_some _ e
      refine wpAny_bind (check_bound_init F.excBase_ValueError.toExcCallFacts (kk _ _ (k2 _ _ hCg)) (kk _ _ hx2) rfl ?_)
      refine wpAny_bind (wpAny_pure (wpAny_pure ?_))
      refine ⟨plainId_quiet F.excBase_ValueError.init.plain _, codeAny_builtin F.excBase_ValueError.initEntry ?_⟩
      refine exc_init_tree (cls := .ref C) (t0 := t0) (dv := none) (c2 := .none) (c3 := .none) (b4 := .bool false) (kk _ _ hx2) (by show (1 : Nat) ≤ sizeLine; rw [sizeLine_eq]; decide) fun h' k' e' _ => ?_
      exact hq h' _ _ (fun b o hb ho => k' b o hb (kk _ _ (k2 _ _ ho))) e'
/-- self.f = f, the first -/
theorem sto_new {body : List Stmt} {q f : Str} {scope : Scope} {C fI cc cda L x t1 : Addr} {hp : Heap} {g : Array GenState} {d : Drawn} {t : Nat} {os : OsState} {v : Value} {p6 p7 p8 p9 : Pos} {Q : Flow → Shared → Prop}
    (T : L2.OexC K C) (hno : findIn K (.ref C) f = some none) (X : K.In hp) (hk : scope.kind = .function) (hkl : scope.names.lookup ("self" : Str) = some .local) (hkf : scope.names.lookup f = some .local) (hdf : (f == ("__debug__" : Str)) = false)
    (hns : hp.Ns L m) (hv : m "self" = some (.ref x)) (hf : m f = some v) (hx : hp.get? x = some (excO C t1))
    (hq : ∀ (h' : Heap) (tk : Nat) (dx : Addr), (∀ b o, b ≠ x → hp.get? b = some o → h'.get? b = some o) → hp.objs.size ≤ dx → dx ≠ x → h'.get? x = some { cls := .ref C, dict := some dx, data := .fields #[.ref t1, .none, .none, .none, .bool false, .none] } → h'.Ns1 dx (fun y => if y = f then some v else none) → Q .next ⟨h', g, d, tk, os⟩)
    (hs : swapsWith (.Name f p8) (some (.Attribute (.Name "self" p6) f p7)) p9.line (ksEnv q scope L fI (.ref cda) cc) = pure false) :
    _root_.PySem.wpAt (model prog w) A (.func body (ksEnv q scope L fI (.ref cda) cc)) (exec (.Assign [.Attribute (.Name "self" p6) f p7] (.Name f p8) p9) (ksEnv q scope L fI (.ref cda) cc)) Q E ⟨hp, g, d, t, os⟩ := by
  obtain ⟨nm, q', N, bs, bm, sn, sub, ab, col, dd, k0, k1, k2, k3, k5, hC, hbm⟩ := T.cls
  have hcl : clsIn K C = some { name := nm, bases := bs, mro := .ref C :: bm, ns := N, qualname := q', hasDict := true, slotNames := sn, subclasses := sub, abstract := ab, collection := col, hasDel := false } := by unfold clsIn; rw [hC] <;> rfl
  refine ks_wpAt_Assign_Attr (wpAt_of_wpAny (wpAny_Name (wpAny_loadName_local hk hkf hns hf ?_) hdf)) hs
  refine wpAny_Name (wpAny_loadName_local hk hkl hns hv ?_) (by decide)
  refine set_plain X (ox := excO C t1) (od := none) ⟨hx, rfl, rfl, trivial⟩ T.sa ?_
  exact exc_osa X hx hcl (show refsVE (.ref C :: bm) = true from hbm) rfl hno fun h' tk' dx k' dn dne hx' hn => hq h' tk' dx k' dn dne hx' hn
/-- self.f = f, a further one -/
theorem sto_old {body : List Stmt} {q f : Str} {scope : Scope} {C fI cc cda L x t1 dx : Addr} {hp : Heap} {g : Array GenState} {d : Drawn} {t : Nat} {os : OsState} {v : Value} {m0 : Str → Option Value} {nl : List Str} {p6 p7 p8 p9 : Pos} {Q : Flow → Shared → Prop}
    (T : L2.OexC K C) (hno : findIn K (.ref C) f = some none) (X : K.In hp) (hk : scope.kind = .function) (hkl : scope.names.lookup ("self" : Str) = some .local) (hkf : scope.names.lookup f = some .local) (hdf : (f == ("__debug__" : Str)) = false)
    (hns : hp.Ns L m) (hv : m "self" = some (.ref x)) (hf : m f = some v) (hx : hp.get? x = some { cls := .ref C, dict := some dx, data := .fields #[.ref t1, .none, .none, .none, .bool false, .none] }) (hd : hp.Ns1 dx m0) (hw : Within m0 nl) (hz : nl.length ≤ 1000)
    (hq : ∀ (h' : Heap) (tk : Nat), (∀ b o, b ≠ dx → hp.get? b = some o → h'.get? b = some o) → h'.Ns1 dx (fun y => if y = f then some v else m0 y) → Q .next ⟨h', g, d, tk, os⟩)
    (hs : swapsWith (.Name f p8) (some (.Attribute (.Name "self" p6) f p7)) p9.line (ksEnv q scope L fI (.ref cda) cc) = pure false) :
    _root_.PySem.wpAt (model prog w) A (.func body (ksEnv q scope L fI (.ref cda) cc)) (exec (.Assign [.Attribute (.Name "self" p6) f p7] (.Name f p8) p9) (ksEnv q scope L fI (.ref cda) cc)) Q E ⟨hp, g, d, t, os⟩ := by
  obtain ⟨nm, q', N, bs, bm, sn, sub, ab, col, dd, k0, k1, k2, k3, k5, hC, hbm⟩ := T.cls
  have hcl : clsIn K C = some { name := nm, bases := bs, mro := .ref C :: bm, ns := N, qualname := q', hasDict := true, slotNames := sn, subclasses := sub, abstract := ab, collection := col, hasDel := false } := by unfold clsIn; rw [hC] <;> rfl
  obtain ⟨oD, _, _, hoD, _, _⟩ := hd.count hw
  refine ks_wpAt_Assign_Attr (wpAt_of_wpAny (wpAny_Name (wpAny_loadName_local hk hkf hns hf ?_) hdf)) hs
  refine wpAny_Name (wpAny_loadName_local hk hkl hns hv ?_) (by decide)
  refine set_plain X (ox := { cls := .ref C, dict := some dx, data := .fields #[.ref t1, .none, .none, .none, .bool false, .none] }) (od := some oD) ⟨hx, rfl, rfl, hoD⟩ T.sa ?_
  exact PySem.OEX.osa_old X hx hd hw hz hcl (show refsVE (.ref C :: bm) = true from hbm) rfl hno fun h' tk' k' hn => hq h' tk' k' hn
theorem wpAt_nil {c : Code} {env : Env} {s : Shared} {Q : Flow → Shared → Prop} (h : Q .next s) : _root_.PySem.wpAt (model prog w) A c (execs [] env) Q E s := wpAt_of_wpAny (wpAny_pure h)
end
end
section
open PySem.W PySem.Calls PySem.HandSPX Builtin Builtin.ObjectAttr
section
variable {prog : Program} {w : World} {A : Around} {base : Heap} {K : Frag} {mg mb : Str → Option Value}
abbrev xiE (msg : Str) (j : Nat) (p0 p1 p2 p3 p4 p5 : Pos) : Stmt := .Expr (.Call (.Attribute (.Call (.Name "super" p0) [] [] p1) "__init__" p2) [.Constant (.str msg) j p3] [] p4) p5
abbrev xiS (f : Str) (p6 p7 p8 p9 : Pos) : Stmt := .Assign [.Attribute (.Name "self" p6) f p7] (.Name f p8) p9
abbrev xiD (C t1 dx : Addr) : Obj := { cls := .ref C, dict := some dx, data := .fields #[.ref t1, .none, .none, .none, .bool false, .none] }
/-- how its statements are read -/
structure XiR (q : Str) (scope : Scope) (fI cc cda : Addr) (msg : Str) (j : Nat) (p0 p1 p2 p3 p4 : Pos) : Prop where
  hi : ∀ L, interactive (ksEnv q scope L fI (.ref cda) cc) = false
  he : ∀ L, ∃ pl, eval (.Call (.Attribute (.Call (.Name "super" p0) [] [] p1) "__init__" p2) [.Constant (.str msg) j p3] [] p4) (ksEnv q scope L fI (.ref cda) cc) = (do
      let ov ← attributeBase (.Call (.Name "super" p0) [] [] p1) "__init__" (ksEnv q scope L fI (.ref cda) cc) (eval (.Call (.Name "super" p0) [] [] p1) (ksEnv q scope L fI (.ref cda) cc))
      standAt p2.atName
      let (fv, first) ← holding [ov] (getMethod ov "__init__" pl)
      callWith p4 fv first (backTo p4 (starEach [.Constant (.str msg) j p3] (ksEnv q scope L fI (.ref cda) cc))) [])
  hcell : ∀ y ∈ scope.names, y.2 ≠ .cell
  hco : scope.isCoroutine = false
  hgen : scope.isGenerator = false
structure XiS (q : Str) (scope : Scope) (fI cc cda : Addr) (f : Str) (p6 p7 p8 p9 : Pos) : Prop where
  hs : ∀ L, swapsWith (.Name f p8) (some (.Attribute (.Name "self" p6) f p7)) p9.line (ksEnv q scope L fI (.ref cda) cc) = pure false
  loc : scope.names.lookup f = some .local
  db : (f == ("__debug__" : Str)) = false
  se : (("self" : Str) == f) = false
theorem ns_keep {h h' : Heap} {L x : Addr} {m : Str → Option Value} (hn : h.Ns L m) (hx : L ≠ x) (k : ∀ b o, b ≠ x → h.get? b = some o → h'.get? b = some o) : h'.Ns L m := by
  obtain ⟨oL, es, ep, hL, r⟩ := hn
  exact ⟨oL, es, ep, k _ _ hx hL, r⟩
theorem init1_run {q f msg : Str} {params : Arguments} {scope : Scope} {C fI cc cda x t0 : Addr} {doc pm ct : Value} {an : Option Addr} {hp : Heap} {g : Array GenState} {d : Drawn} {t : Nat} {os : OsState} {v : Value} {j : Nat} {p0 p1 p2 p3 p4 p5 p6 p7 p8 p9 : Pos} {R : Result → Shared → Prop}
    (T : L2.OexC K C) (Fa : XiF prog K q scope C fI cc cda (ksFn "__init__" q params [xiE msg j p0 p1 p2 p3 p4 p5, xiS f p6 p7 p8 p9] scope .none .none doc pm an (.ref cda) ct cc)) (hcd : codeIn K (.ref cda) q = true) (hno : findIn K (.ref C) f = some none)
    (Re : XiR q scope fI cc cda msg j p0 p1 p2 p3 p4) (Se : XiS q scope fI cc cda f p6 p7 p8 p9)
    (KI : K.In base) (hg : base.Ns mainGlobals mg) (hms : mg "super" = none) (hb : base.Ns builtinsNs mb) (hbb : ∀ y : Str, y ≠ "__name__" → mb y = bootBuiltins y) (nl : base.NoLimit) (hroom : A.depth < recursionLimit)
    (k : ∀ b o, base.get? b = some o → hp.get? b = some o) (hbx : base.get? x = none) (hx : hp.get? x = some (excO C t0))
    (hbind : BindsTo ⟨hp, g, d, t, os⟩ (ksFn "__init__" q params [xiE msg j p0 p1 p2 p3 p4 p5, xiS f p6 p7 p8 p9] scope .none .none doc pm an (.ref cda) ct cc) ⟨[.ref x], [(f, v)]⟩ [("self", .ref x), (f, v)])
    (hq : ∀ (h' : Heap) (tk : Nat) (dx t1 : Addr), (∀ b o, b ≠ x → hp.get? b = some o → h'.get? b = some o) → hp.objs.size ≤ dx → dx ≠ x → h'.get? x = some (xiD C t1 dx) → h'.Ns1 dx (fun y => if y = f then some v else none) → R (.ok (.ret .none)) ⟨h', g, d, tk, os⟩) :
    codeAny (model prog w) A (.call (.ref fI) ⟨[.ref x], [(f, v)]⟩) R ⟨hp, g, d, t, os⟩ := by
  have X : K.In hp := KI.keeps k
  obtain ⟨oc, od, osl, hfn⟩ := Fa.fn
  have xlt := Heap.lt_size hx
  refine ks_codeAny_call_defAt (binds := [("self", .ref x), (f, v)]) hroom (X _ _ hfn) rfl (nl.keeps k) (codeRec_of X hcd) rfl hbind Re.hcell (fun y hy => ?_) (fun h₁ hns k₁ => ?_) Re.hco Re.hgen Fa.kind
  · simp only [List.mem_cons, List.not_mem_nil, or_false] at hy
    rcases hy with rfl | rfl
    · exact Fa.hkl
    · exact Se.loc
  have m1 : (fun y => ([("self", Value.ref x), (f, v)] : List (Str × Value)).reverse.lookup y) "self" = some (.ref x) := by
    show List.lookup _ [(f, v), ("self", Value.ref x)] = _
    rw [List.lookup_cons, Se.se]; rfl
  have m2 : (fun y => ([("self", Value.ref x), (f, v)] : List (Str × Value)).reverse.lookup y) f = some v := by
    show List.lookup _ [(f, v), ("self", Value.ref x)] = _
    rw [List.lookup_cons, beq_self_eq_true]
  have hLx : hp.objs.size ≠ x := Nat.ne_of_gt xlt
  have nb : ∀ {b : Addr} {o : Obj}, base.get? b = some o → b ≠ x := fun {b o} e z => by rw [z, hbx] at e; cases e
  refine ks_wpAt_execs_cons (sup_run T Fa KI hg hms hb hbb (Re.hi _) (Re.he _) (fun b o e => k₁ b o (k b o e)) hns m1 (k₁ _ _ hx) (fun h2 t1 tk k2 hx2 => ?_))
  have hns2 := ns_keep hns hLx k2
  have sz2 : hp.objs.size < h2.objs.size := hns2.lt
  refine ks_wpAt_execs_cons (sto_new T hno (KI.keeps fun b o e => k2 b o (nb e) (k₁ b o (k b o e))) Fa.kind Fa.hkl Se.loc Se.db hns2 m1 m2 hx2 (fun h3 tk3 dx k3 dn dne hx3 hn3 => ?_) (Se.hs _))
  refine wpAt_nil ?_
  exact hq h3 tk3 dx t1 (fun b o hbx e => k3 b o hbx (k2 b o hbx (k₁ b o e))) (by omega) dne hx3 hn3
theorem init2_run {q f f2 msg : Str} {params : Arguments} {scope : Scope} {C fI cc cda x t0 : Addr} {doc pm ct : Value} {an : Option Addr} {hp : Heap} {g : Array GenState} {d : Drawn} {t : Nat} {os : OsState} {v v2 : Value} {j : Nat} {p0 p1 p2 p3 p4 p5 p6 p7 p8 p9 r6 r7 r8 r9 : Pos} {R : Result → Shared → Prop}
    (T : L2.OexC K C) (Fa : XiF prog K q scope C fI cc cda (ksFn "__init__" q params [xiE msg j p0 p1 p2 p3 p4 p5, xiS f p6 p7 p8 p9, xiS f2 r6 r7 r8 r9] scope .none .none doc pm an (.ref cda) ct cc)) (hcd : codeIn K (.ref cda) q = true) (hno : findIn K (.ref C) f = some none) (hno2 : findIn K (.ref C) f2 = some none)
    (Re : XiR q scope fI cc cda msg j p0 p1 p2 p3 p4) (Se : XiS q scope fI cc cda f p6 p7 p8 p9) (Se2 : XiS q scope fI cc cda f2 r6 r7 r8 r9) (hff : (f == f2) = false)
    (KI : K.In base) (hg : base.Ns mainGlobals mg) (hms : mg "super" = none) (hb : base.Ns builtinsNs mb) (hbb : ∀ y : Str, y ≠ "__name__" → mb y = bootBuiltins y) (nl : base.NoLimit) (hroom : A.depth < recursionLimit)
    (k : ∀ b o, base.get? b = some o → hp.get? b = some o) (hbx : base.get? x = none) (hx : hp.get? x = some (excO C t0))
    (hbind : BindsTo ⟨hp, g, d, t, os⟩ (ksFn "__init__" q params [xiE msg j p0 p1 p2 p3 p4 p5, xiS f p6 p7 p8 p9, xiS f2 r6 r7 r8 r9] scope .none .none doc pm an (.ref cda) ct cc) ⟨[.ref x], [(f, v), (f2, v2)]⟩ [("self", .ref x), (f, v), (f2, v2)])
    (hq : ∀ (h' : Heap) (tk : Nat) (dx t1 : Addr), (∀ b o, b ≠ x → hp.get? b = some o → h'.get? b = some o) → hp.objs.size ≤ dx → dx ≠ x → h'.get? x = some (xiD C t1 dx) → h'.Ns1 dx (fun y => if y = f2 then some v2 else if y = f then some v else none) → R (.ok (.ret .none)) ⟨h', g, d, tk, os⟩) :
    codeAny (model prog w) A (.call (.ref fI) ⟨[.ref x], [(f, v), (f2, v2)]⟩) R ⟨hp, g, d, t, os⟩ := by
  have X : K.In hp := KI.keeps k
  obtain ⟨oc, od, osl, hfn⟩ := Fa.fn
  have xlt := Heap.lt_size hx
  refine ks_codeAny_call_defAt (binds := [("self", .ref x), (f, v), (f2, v2)]) hroom (X _ _ hfn) rfl (nl.keeps k) (codeRec_of X hcd) rfl hbind Re.hcell (fun y hy => ?_) (fun h₁ hns k₁ => ?_) Re.hco Re.hgen Fa.kind
  · simp only [List.mem_cons, List.not_mem_nil, or_false] at hy
    rcases hy with rfl | rfl | rfl
    · exact Fa.hkl
    · exact Se.loc
    · exact Se2.loc
  have m1 : (fun y => ([("self", Value.ref x), (f, v), (f2, v2)] : List (Str × Value)).reverse.lookup y) "self" = some (.ref x) := by
    show List.lookup _ [(f2, v2), (f, v), ("self", Value.ref x)] = _
    rw [List.lookup_cons, Se2.se]
    show List.lookup _ [(f, v), ("self", Value.ref x)] = _
    rw [List.lookup_cons, Se.se]; rfl
  have m2 : (fun y => ([("self", Value.ref x), (f, v), (f2, v2)] : List (Str × Value)).reverse.lookup y) f = some v := by
    show List.lookup _ [(f2, v2), (f, v), ("self", Value.ref x)] = _
    rw [List.lookup_cons, hff]
    show List.lookup _ [(f, v), ("self", Value.ref x)] = _
    rw [List.lookup_cons, beq_self_eq_true]
  have m3 : (fun y => ([("self", Value.ref x), (f, v), (f2, v2)] : List (Str × Value)).reverse.lookup y) f2 = some v2 := by
    show List.lookup _ [(f2, v2), (f, v), ("self", Value.ref x)] = _
    rw [List.lookup_cons, beq_self_eq_true]
  have hLx : hp.objs.size ≠ x := Nat.ne_of_gt xlt
  have nb : ∀ {b : Addr} {o : Obj}, base.get? b = some o → b ≠ x := fun {b o} e z => by rw [z, hbx] at e; cases e
  refine ks_wpAt_execs_cons (sup_run T Fa KI hg hms hb hbb (Re.hi _) (Re.he _) (fun b o e => k₁ b o (k b o e)) hns m1 (k₁ _ _ hx) (fun h2 t1 tk k2 hx2 => ?_))
  have hns2 := ns_keep hns hLx k2
  have sz2 : hp.objs.size < h2.objs.size := hns2.lt
  refine ks_wpAt_execs_cons (sto_new T hno (KI.keeps fun b o e => k2 b o (nb e) (k₁ b o (k b o e))) Fa.kind Fa.hkl Se.loc Se.db hns2 m1 m2 hx2 (fun h3 tk3 dx k3 dn dne hx3 hn3 => ?_) (Se.hs _))
  have hns3 := ns_keep hns2 hLx k3
  have old : ∀ {b : Addr} {o : Obj}, hp.get? b = some o → b ≠ dx := fun {b o} e => Nat.ne_of_lt (Nat.lt_of_lt_of_le (Heap.lt_size e) (by omega))
  refine ks_wpAt_execs_cons (sto_old (nl := [f]) T hno2 (KI.keeps fun b o e => k3 b o (nb e) (k2 b o (nb e) (k₁ b o (k b o e)))) Fa.kind Fa.hkl Se2.loc Se2.db hns3 m1 m3 hx3 hn3 (fun y hy => ?_) (by show (1 : Nat) ≤ 1000; decide) (fun h4 tk4 k4 hn4 => ?_) (Se2.hs _))
  · by_cases e : y = f
    · rw [e]; exact List.mem_cons_self
    · exact absurd (if_neg e) hy
  refine wpAt_nil ?_
  exact hq h4 tk4 dx t1 (fun b o hbx e => k4 b o (old e) (k3 b o hbx (k2 b o hbx (k₁ b o e)))) (by omega) dne (k4 _ _ dne.symm hx3) hn4
end
/-- the class and its __init__, all that is known -/
structure XK1 (P : Program) (K : Frag) (mg : Str → Option Value) (x f : Str) (C : Addr) : Prop where
  o : OexC K C
  gC : mg x = some (.ref C)
  ms : mg "super" = none
  no : findIn K (.ref C) f = some none
  ex : ∃ (q msg : Str) (params : Arguments) (scope : Scope) (fI cc cda : Addr) (doc pm ct : Value) (an : Option Addr) (j : Nat) (p0 p1 p2 p3 p4 p5 p6 p7 p8 p9 : Pos),
    findIn K (.ref C) "__init__" = some (some (.ref fI)) ∧ typeIn K (.ref fI) = some (.type "function") ∧
    XiF P K q scope C fI cc cda (ksFn "__init__" q params [xiE msg j p0 p1 p2 p3 p4 p5, xiS f p6 p7 p8 p9] scope .none .none doc pm an (.ref cda) ct cc) ∧ codeIn K (.ref cda) q = true ∧
    XiR q scope fI cc cda msg j p0 p1 p2 p3 p4 ∧ XiS q scope fI cc cda f p6 p7 p8 p9 ∧
    ∀ (s : Shared) (u v : Value), BindsTo s (ksFn "__init__" q params [xiE msg j p0 p1 p2 p3 p4 p5, xiS f p6 p7 p8 p9] scope .none .none doc pm an (.ref cda) ct cc) ⟨[u], [(f, v)]⟩ [("self", u), (f, v)]
structure XK2 (P : Program) (K : Frag) (mg : Str → Option Value) (x f f2 : Str) (C : Addr) : Prop where
  o : OexC K C
  gC : mg x = some (.ref C)
  ms : mg "super" = none
  no : findIn K (.ref C) f = some none
  no2 : findIn K (.ref C) f2 = some none
  ne : (f == f2) = false
  ex : ∃ (q msg : Str) (params : Arguments) (scope : Scope) (fI cc cda : Addr) (doc pm ct : Value) (an : Option Addr) (j : Nat) (p0 p1 p2 p3 p4 p5 p6 p7 p8 p9 r6 r7 r8 r9 : Pos),
    findIn K (.ref C) "__init__" = some (some (.ref fI)) ∧ typeIn K (.ref fI) = some (.type "function") ∧
    XiF P K q scope C fI cc cda (ksFn "__init__" q params [xiE msg j p0 p1 p2 p3 p4 p5, xiS f p6 p7 p8 p9, xiS f2 r6 r7 r8 r9] scope .none .none doc pm an (.ref cda) ct cc) ∧ codeIn K (.ref cda) q = true ∧
    XiR q scope fI cc cda msg j p0 p1 p2 p3 p4 ∧ XiS q scope fI cc cda f p6 p7 p8 p9 ∧ XiS q scope fI cc cda f2 r6 r7 r8 r9 ∧
    ∀ (s : Shared) (u v v2 : Value), BindsTo s (ksFn "__init__" q params [xiE msg j p0 p1 p2 p3 p4 p5, xiS f p6 p7 p8 p9, xiS f2 r6 r7 r8 r9] scope .none .none doc pm an (.ref cda) ct cc) ⟨[u], [(f, v), (f2, v2)]⟩ [("self", u), (f, v), (f2, v2)]
section
variable {X : Cx}
/-- the end of C(..): the exception is let go, its dict stands as an exception's dict -/
theorem mk_fin {pins : List (Addr × Obj)} {σ : L2.St} {H : Hp} {Q : XK} {hp h' : Heap} {g : Array GenState} {dr : Drawn} {t t' : Nat} {os : OsState} {C dx t1 : Addr} {us : List Value} {fs : List (Str × V)} {mA : Str → Option Value} (T : OexC X.K C) (I : Inv X pins σ H ⟨hp, g, dr, t, os⟩)
    (k : ∀ b o, b ≠ hp.objs.size + 1 → ((hp.push (kdv_tup us)).push (excO C hp.objs.size)).get? b = some o → h'.get? b = some o) (dn : ((hp.push (kdv_tup us)).push (excO C hp.objs.size)).objs.size ≤ dx) (dne : dx ≠ hp.objs.size + 1)
    (hx : h'.get? (hp.objs.size + 1) = some (xiD C t1 dx)) (hn : h'.Ns1 dx mA) (rel : ∀ f, RelO (fs.lookup f) (mA f)) (q : Q (.ref C) (some dx) (upd H dx (.xd fs))) :
    MkP X pins σ Q (.ref (hp.objs.size + 1)) ⟨h', g, dr, t', os⟩ := by
  rw [Heap.size_push, Heap.size_push] at dn
  obtain ⟨G, g1', g2'⟩ := restrict h' fun b => decide (b ≠ hp.objs.size + 1)
  have gk : ∀ b, b ≠ hp.objs.size + 1 → G.get? b = h'.get? b := fun b hb => g1' b (decide_eq_true hb)
  have ge : G.get? (hp.objs.size + 1) = none := g2' _ (by simp)
  have kk : ∀ b u, hp.get? b = some u → G.get? b = some u := fun b u e => by
    have hb : b ≠ hp.objs.size + 1 := Nat.ne_of_lt (Nat.lt_succ_of_lt (Heap.lt_size e))
    rw [gk b hb]
    exact k b u hb (Heap.get?_push_of_some _ (Heap.get?_push_of_some _ e))
  have J : Inv X pins σ (upd H dx (.xd fs)) ⟨G, g, dr, t', os⟩ := I.laid (t' := t') (a := dx) (o := .xd fs) (h' := G) kk (by show hp.objs.size ≤ dx; omega) ⟨mA, hn.at fun o y => (gk dx dne).trans y, rel⟩
  have na : H (hp.objs.size + 1) = none := I.hok.fresh (Nat.le_succ _)
  refine ⟨hp.objs.size + 1, _, _, ⟨G, g, dr, t', os⟩, _, .ref C, some dx, rfl, J, fun b o e => ?_, ge, hx, ⟨rfl, rfl⟩, rfl, rfl, ?_, rfl, I.bare, raises_own T.exC T.tyC, q⟩
  · by_cases hb : b = hp.objs.size + 1
    · rw [hb, ge] at e; cases e
    · rw [← gk b hb]; exact e
  · rw [upd_ne (Ne.symm dne)]; exact na
def q1of (Q : V → Hp → Prop) : List V → Hp → Prop
  | [y], H => Q y H
  | _, _ => False
def q2of (Q : V → V → Hp → Prop) : List V → Hp → Prop
  | [y, z], H => Q y z H
  | _, _ => False
theorem pmk_kw1 {x f : Str} {C : Addr} {e : Expr} {te : TE} {p pos kpos : Pos} {k : Nat} (Xk : XK1 X.prog X.K X.mg x f C) (hr : Room (k + 1) X.A) (hg : Gl X x) (he : PE X e te)
    (hall : (backToKw pos (keywordEach [⟨some f, e, kpos⟩] X.env)).all (·.1.isSome) = true := by rfl) (hks : (backToKw pos (keywordEach [⟨some f, e, kpos⟩] X.env)).filterMap (·.1) = [f] := by rfl) (hdb : (x == ("__debug__" : Str)) = false := by decide)
    (hpl : ((backTo pos (starEach [] X.env)).any (·.1) || (backToKw pos (keywordEach [⟨some f, e, kpos⟩] X.env)).any (·.1.isNone)) = false := by rfl) :
    PMk X (.Call (.Name x p) [] [⟨some f, e, kpos⟩] pos) (fun σ H Q => te σ H fun y H1 => ∀ d, H1 d = none → Q (.ref C) (some d) (upd H1 d (.xd [(f, y)]))) := by
  intro pins s σ H Q I h
  obtain ⟨q, msg, params, scope, fI, cc, cda, doc, pm, ct, an, j, p0, p1, p2, p3, p4, p5, p6, p7, p8, p9, iC, tI, Fa, hcd, Re, Se, hbind⟩ := Xk.ex
  obtain ⟨nm, q', N, bs, bm, sn, sub, ab, col, dd, k0, k1, k2, k3, k5, hC, hbm⟩ := Xk.o.cls
  refine wpAny_Call_Name_kw (ld_glob I hg Xk.gC ?_ hdb)
  refine callWith_KW0 (h₀ := X.base) I.ok.mod.kin Xk.o.kC hall ?_ hpl
  refine thn ((pk_cons (nm := some f) (kpos := kpos) he pk_nil).run pos pins s σ H (q1of fun y H1 => ∀ d, H1 d = none → Q (.ref C) (some d) (upd H1 d (.xd [(f, y)]))) I (show tCons te tNil σ H (q1of fun y H1 => ∀ d, H1 d = none → Q (.ref C) (some d) (upd H1 d (.xd [(f, y)]))) from h)) fun ws s2 ⟨zs, H2, I2, rz, q2⟩ => ⟨I2.kIn, ?_⟩
  rw [hks]
  obtain ⟨y, v, rfl, rfl, ry⟩ : ∃ y v, zs = [y] ∧ ws = [v] ∧ RelV y v := by
    cases rz with
    | nil => exact q2.elim
    | @cons y v zs' ws' ry rz' =>
      cases rz' with
      | nil => exact ⟨y, v, rfl, rfl, ry⟩
      | cons _ _ => exact q2.elim
  replace q2 : ∀ d, H2 d = none → Q (.ref C) (some d) (upd H2 d (.xd [(f, y)])) := q2
  show wpAny _ _ (call (.ref C) [] [(f, v)]) _ _ _
  obtain ⟨hp, g, dr, tk, os⟩ := s2
  have hsz : hp.objs.size ≤ hp.objs.size + 1 := Nat.le_succ _
  have kk : ∀ b o, hp.get? b = some o → ((hp.push (kdv_tup [])).push (excO C hp.objs.size)).get? b = some o := fun b o e => Heap.get?_push_of_some _ (Heap.get?_push_of_some _ e)
  have hget : ((hp.push (kdv_tup [])).push (excO C hp.objs.size)).get? (hp.objs.size + 1) = some (excO C hp.objs.size) := by heap_get
  obtain ⟨mb, hb1, hb2⟩ := I2.mod.blt
  have hbx : X.base.get? (hp.objs.size + 1) = none := by
    cases e : X.base.get? (hp.objs.size + 1) with
    | none => rfl
    | some o => exact absurd (Heap.lt_size (I2.bk _ _ e)) (Nat.not_lt.mpr hsz)
  refine wpAny_call (callK F.excBase_ValueError (fun Y => refsVE_contains Y bm hbm) (I2.kIn _ _ hC) (looks_findIn I2.kIn iC) (fun self => bind_fn I2.kIn self tI) ?_)
  refine init1_run Xk.o Fa hcd Xk.no Re Se I2.mod.kin I2.mod.glob Xk.ms hb1 hb2 I2.mod.nolimit (hr.make C [] [(f, v)]).depth (fun b o e => kk b o (I2.bk b o e)) hbx hget (hbind _ _ _) fun h' tk' dx t1 k' dn dne hx' hn' => ?_
  exact ⟨rfl, mk_fin Xk.o I2 k' dn dne hx' hn' (relO_put (fs := []) ry fun g => True.intro) (q2 dx (I2.hok.fresh (by rw [Heap.size_push, Heap.size_push] at dn; show hp.objs.size ≤ dx; omega)))⟩
theorem pmk_kw2 {x f f2 : Str} {C : Addr} {e e2 : Expr} {te te2 : TE} {p pos kpos kpos2 : Pos} {k : Nat} (Xk : XK2 X.prog X.K X.mg x f f2 C) (hr : Room (k + 1) X.A) (hg : Gl X x) (he : PE X e te) (he2 : PE X e2 te2)
    (hall : (backToKw pos (keywordEach [⟨some f, e, kpos⟩, ⟨some f2, e2, kpos2⟩] X.env)).all (·.1.isSome) = true := by rfl) (hks : (backToKw pos (keywordEach [⟨some f, e, kpos⟩, ⟨some f2, e2, kpos2⟩] X.env)).filterMap (·.1) = [f, f2] := by rfl) (hdb : (x == ("__debug__" : Str)) = false := by decide)
    (hpl : ((backTo pos (starEach [] X.env)).any (·.1) || (backToKw pos (keywordEach [⟨some f, e, kpos⟩, ⟨some f2, e2, kpos2⟩] X.env)).any (·.1.isNone)) = false := by rfl) :
    PMk X (.Call (.Name x p) [] [⟨some f, e, kpos⟩, ⟨some f2, e2, kpos2⟩] pos) (fun σ H Q => te σ H fun y H1 => te2 σ H1 fun z H2 => ∀ d, H2 d = none → Q (.ref C) (some d) (upd H2 d (.xd [(f2, z), (f, y)]))) := by
  intro pins s σ H Q I h
  obtain ⟨q, msg, params, scope, fI, cc, cda, doc, pm, ct, an, j, p0, p1, p2, p3, p4, p5, p6, p7, p8, p9, r6, r7, r8, r9, iC, tI, Fa, hcd, Re, Se, Se2, hbind⟩ := Xk.ex
  obtain ⟨nm, q', N, bs, bm, sn, sub, ab, col, dd, k0, k1, k2, k3, k5, hC, hbm⟩ := Xk.o.cls
  refine wpAny_Call_Name_kw (ld_glob I hg Xk.gC ?_ hdb)
  refine callWith_KW0 (h₀ := X.base) I.ok.mod.kin Xk.o.kC hall ?_ hpl
  refine thn ((pk_cons (nm := some f) (kpos := kpos) he (pk_cons (nm := some f2) (kpos := kpos2) he2 pk_nil)).run pos pins s σ H (q2of fun y z H1 => ∀ d, H1 d = none → Q (.ref C) (some d) (upd H1 d (.xd [(f2, z), (f, y)]))) I (show tCons te (tCons te2 tNil) σ H (q2of fun y z H1 => ∀ d, H1 d = none → Q (.ref C) (some d) (upd H1 d (.xd [(f2, z), (f, y)]))) from h)) fun ws s2 ⟨zs, H2, I2, rz, q2⟩ => ⟨I2.kIn, ?_⟩
  rw [hks]
  obtain ⟨y, v, z, v2, rfl, rfl, ry, rz⟩ : ∃ y v z v2, zs = [y, z] ∧ ws = [v, v2] ∧ RelV y v ∧ RelV z v2 := by
    cases rz with
    | nil => exact q2.elim
    | @cons y v zs' ws' ry rz' =>
      cases rz' with
      | nil => exact q2.elim
      | @cons z v2 zs2 ws2 rz2 rz3 =>
        cases rz3 with
        | nil => exact ⟨y, v, z, v2, rfl, rfl, ry, rz2⟩
        | cons _ _ => exact q2.elim
  replace q2 : ∀ d, H2 d = none → Q (.ref C) (some d) (upd H2 d (.xd [(f2, z), (f, y)])) := q2
  show wpAny _ _ (call (.ref C) [] [(f, v), (f2, v2)]) _ _ _
  obtain ⟨hp, g, dr, tk, os⟩ := s2
  have hsz : hp.objs.size ≤ hp.objs.size + 1 := Nat.le_succ _
  have kk : ∀ b o, hp.get? b = some o → ((hp.push (kdv_tup [])).push (excO C hp.objs.size)).get? b = some o := fun b o e => Heap.get?_push_of_some _ (Heap.get?_push_of_some _ e)
  have hget : ((hp.push (kdv_tup [])).push (excO C hp.objs.size)).get? (hp.objs.size + 1) = some (excO C hp.objs.size) := by heap_get
  obtain ⟨mb, hb1, hb2⟩ := I2.mod.blt
  have hbx : X.base.get? (hp.objs.size + 1) = none := by
    cases e : X.base.get? (hp.objs.size + 1) with
    | none => rfl
    | some o => exact absurd (Heap.lt_size (I2.bk _ _ e)) (Nat.not_lt.mpr hsz)
  refine wpAny_call (callK F.excBase_ValueError (fun Y => refsVE_contains Y bm hbm) (I2.kIn _ _ hC) (looks_findIn I2.kIn iC) (fun self => bind_fn I2.kIn self tI) ?_)
  refine init2_run Xk.o Fa hcd Xk.no Xk.no2 Re Se Se2 Xk.ne I2.mod.kin I2.mod.glob Xk.ms hb1 hb2 I2.mod.nolimit (hr.make C [] [(f, v), (f2, v2)]).depth (fun b o e => kk b o (I2.bk b o e)) hbx hget (hbind _ _ _ _) fun h' tk' dx t1 k' dn dne hx' hn' => ?_
  exact ⟨rfl, mk_fin Xk.o I2 k' dn dne hx' hn' (relO_put rz (relO_put (fs := []) ry fun g => True.intro)) (q2 dx (I2.hok.fresh (by rw [Heap.size_push, Heap.size_push] at dn; show hp.objs.size ≤ dx; omega)))⟩
end
section
variable {X : Cy} {e e2 : Expr} {r : Env2} {G : GD} {pos p kpos kpos2 rpos : Pos} {D0 : EndsD} {k : Nat}
theorem ws_raiseK1 {x f : Str} {C : Addr} (Xk : XK1 X.prog X.K X.mg x f C) (hr : Room (k + 1) X.A) (hc : X.calm = true) (tk : X.Tk) (hg : Gl X x) (h : WE X e r G fun y r1 G1 => ∃ d, y = .sh d ∧ X.QX ⟨.ref C, [(f, d)]⟩ r1 G1)
    (hall : (backToKw pos (keywordEach [⟨some f, e, kpos⟩] X.env)).all (·.1.isSome) = true := by rfl) (hks : (backToKw pos (keywordEach [⟨some f, e, kpos⟩] X.env)).filterMap (·.1) = [f] := by rfl) (hdb : (x == ("__debug__" : Str)) = false := by decide)
    (hpl : ((backTo pos (starEach [] X.env)).any (·.1) || (backToKw pos (keywordEach [⟨some f, e, kpos⟩] X.env)).any (·.1.isNone)) = false := by rfl) :
    WS X (.Raise (some (.Call (.Name x p) [] [⟨some f, e, kpos⟩] pos)) none rpos) r G D0 := fun F0 T F H σ lk S =>
  RunS.of (ps_raise hc tk (pmk_kw1 Xk hr hg peR hall hks hdb hpl)) ((h F0 T F H σ lk S).mono fun v H1 ⟨y, r1, G1, F1, e1, S1, k1, d, hy, q⟩ dd hd => by
    subst hy
    exact ⟨r1, G1, upd F1 dd (.xd [(f, v)]), ⟨.ref C, [(f, d)]⟩, lk.sta (S1.newF hd), ⟨rfl, .inr ⟨dd, [v], rfl, upd_same, ⟨v, [], rfl, Rep.mono (Ex.new (S1.bas.freshF hd).1) _ _ k1, rfl⟩⟩⟩, q⟩)
theorem ws_raiseK2 {x f f2 : Str} {C : Addr} (Xk : XK2 X.prog X.K X.mg x f f2 C) (hr : Room (k + 1) X.A) (hc : X.calm = true) (tk : X.Tk) (hg : Gl X x) (h : WE X e r G fun y r1 G1 => ∃ d, y = .sh d ∧ WE X e2 r1 G1 fun y2 r2 G2 => ∃ d2, y2 = .sh d2 ∧ X.QX ⟨.ref C, [(f2, d2), (f, d)]⟩ r2 G2)
    (hall : (backToKw pos (keywordEach [⟨some f, e, kpos⟩, ⟨some f2, e2, kpos2⟩] X.env)).all (·.1.isSome) = true := by rfl) (hks : (backToKw pos (keywordEach [⟨some f, e, kpos⟩, ⟨some f2, e2, kpos2⟩] X.env)).filterMap (·.1) = [f, f2] := by rfl) (hdb : (x == ("__debug__" : Str)) = false := by decide)
    (hpl : ((backTo pos (starEach [] X.env)).any (·.1) || (backToKw pos (keywordEach [⟨some f, e, kpos⟩, ⟨some f2, e2, kpos2⟩] X.env)).any (·.1.isNone)) = false := by rfl) :
    WS X (.Raise (some (.Call (.Name x p) [] [⟨some f, e, kpos⟩, ⟨some f2, e2, kpos2⟩] pos)) none rpos) r G D0 := fun F0 T F H σ lk S =>
  RunS.of (ps_raise hc tk (pmk_kw2 Xk hr hg peR peR hall hks hdb hpl)) ((h F0 T F H σ lk S).mono fun v H1 ⟨y, r1, G1, F1, e1, S1, k1, d, hy, hw⟩ => (hw F0 T F1 H1 σ lk S1).mono fun v2 H2 ⟨y2, r2, G2, F2, e2, S2, k2, d2, hy2, q⟩ dd hd => by
    subst hy hy2
    have ex := Ex.new (o := HO.xd [(f2, v2), (f, v)]) (S2.bas.freshF hd).1
    exact ⟨r2, G2, upd F2 dd (.xd [(f2, v2), (f, v)]), ⟨.ref C, [(f2, d2), (f, d)]⟩, lk.sta (S2.newF hd), ⟨rfl, .inr ⟨dd, [v2, v], rfl, upd_same, ⟨v2, [v], rfl, Rep.mono ex _ _ k2, ⟨v, [], rfl, Rep.mono (e2.trans ex) _ _ k1, rfl⟩⟩⟩⟩, q⟩)
end
end
section
open PySem.W PySem.HandSPX
theorem tail_VE : ∀ l : List Value, excTail veTail l = true → refsVE l = true := by
  intro l
  induction l with
  | nil => intro e; exact e
  | cons a r ih =>
    intro e
    rcases excTail_cases (a :: r) e with ⟨c, r', q, h⟩ | q
    · obtain ⟨rfl, rfl⟩ := List.cons.inj q
      exact ih h
    · rw [q]; rfl
theorem oexc_mk {K : Frag} {C : Addr} (q : excInitIn K C [.type "ValueError", .type "Exception", .type "BaseException", .type "object"] "ValueError.__new__" = true) (hd : hasDictIn K C = true) (sa : findIn K (.ref C) "__setattr__" = some (some (.builtin "object.__setattr__")))
    (exC : subIn K (.ref C) (.type "BaseException") = some true) (tyC : typeIn K (.ref C) = some (.type "type")) (kC : keepIn K (.ref C) = true) : L2.OexC K C := by
  refine ⟨?_, sa, exC, tyC, kC⟩
  unfold excInitIn at q
  split at q
  · rename_i dd cd sl ho
    split at q
    · rename_i C' bm k0 k1 k2 k3 n k5 hm hs
      simp only [Bool.and_eq_true, beq_iff_eq, Bool.not_eq_true'] at q
      obtain ⟨⟨⟨rfl, rfl⟩, hdel⟩, ht⟩ := q
      have hd2 : cd.hasDict = true := by
        unfold hasDictIn clsIn at hd
        rw [ho] at hd
        exact hd
      obtain ⟨nm, bs, mro, ns, qn, hdc, sn, sub, ab, col, del⟩ := cd
      dsimp only at hm hdel hd2
      subst hm hdel hd2
      have hsl : sl = #[k0, k1, k2, k3, some (.builtin "ValueError.__new__"), k5] := by
        obtain ⟨l⟩ := sl
        simp only at hs
        rw [hs]
      subst hsl
      exact ⟨nm, qn, ns, bs, bm, sn, sub, ab, col, dd, k0, k1, k2, k3, k5, ho, tail_VE _ ht⟩
    · cases q
  · cases q
/-- the text of such an __init__ -/
structure XiT1 (st : Stmt) (q f : Str) : Prop where
  body : ∃ (msg : Str) (j : Nat) (p0 p1 p2 p3 p4 p5 p6 p7 p8 p9 : Pos), defBody st = [xiE msg j p0 p1 p2 p3 p4 p5, xiS f p6 p7 p8 p9] ∧ ∀ fI cc cda, XiR q (defScope st) fI cc cda msg j p0 p1 p2 p3 p4 ∧ XiS q (defScope st) fI cc cda f p6 p7 p8 p9
  par : ∃ ar : Arg, ((defArgs st).posonlyargs ++ (defArgs st).args).head? = some ar ∧ ar.arg = "self"
  hks : (defScope st).names.lookup ("super" : Str) = some .globalImplicit
  hkc : (defScope st).names.lookup ("__class__" : Str) = some .free
  hkl : (defScope st).names.lookup ("self" : Str) = some .local
  kind : (defScope st).kind = .function
  bind : ∀ (B : List Stmt) (doc pm ct cdv : Value) (an : Option Addr) (cc : Addr) (s : Shared) (u v : Value), BindsTo s (ksFn "__init__" q (defArgs st) B (defScope st) .none .none doc pm an cdv ct cc) ⟨[u], [(f, v)]⟩ [("self", u), (f, v)]
structure XiT2 (st : Stmt) (q f f2 : Str) : Prop where
  body : ∃ (msg : Str) (j : Nat) (p0 p1 p2 p3 p4 p5 p6 p7 p8 p9 r6 r7 r8 r9 : Pos), defBody st = [xiE msg j p0 p1 p2 p3 p4 p5, xiS f p6 p7 p8 p9, xiS f2 r6 r7 r8 r9] ∧ ∀ fI cc cda, XiR q (defScope st) fI cc cda msg j p0 p1 p2 p3 p4 ∧ XiS q (defScope st) fI cc cda f p6 p7 p8 p9 ∧ XiS q (defScope st) fI cc cda f2 r6 r7 r8 r9
  par : ∃ ar : Arg, ((defArgs st).posonlyargs ++ (defArgs st).args).head? = some ar ∧ ar.arg = "self"
  hks : (defScope st).names.lookup ("super" : Str) = some .globalImplicit
  hkc : (defScope st).names.lookup ("__class__" : Str) = some .free
  hkl : (defScope st).names.lookup ("self" : Str) = some .local
  kind : (defScope st).kind = .function
  ne : (f == f2) = false
  bind : ∀ (B : List Stmt) (doc pm ct cdv : Value) (an : Option Addr) (cc : Addr) (s : Shared) (u v v2 : Value), BindsTo s (ksFn "__init__" q (defArgs st) B (defScope st) .none .none doc pm an cdv ct cc) ⟨[u], [(f, v), (f2, v2)]⟩ [("self", u), (f, v), (f2, v2)]
section
variable {P : Program} {K : Frag} {mg : Str → Option Value} {x q f f2 : Str} {C fI cc cda : Addr} {st : Stmt} {oc ccl cl doc pm ct : Value} {od cdd cld an : Option Addr} {osl ccs csl : Array (Option Value)} {vs : Array Value} {file : Str} {tf : Tok}
theorem xk1_mk (T : XiT1 st q f) (o : L2.OexC K C) (gC : mg x = some (.ref C)) (ms : mg "super" = none) (no : findIn K (.ref C) f = some none) (iC : findIn K (.ref C) "__init__" = some (some (.ref fI))) (tI : typeIn K (.ref fI) = some (.type "function"))
    (sup : ks_superIn K C C "__init__" = some (some (.builtin "ValueError.__init__"))) (self : mroIn K C (.ref C) = some true) (isV : subIn K (.ref C) (.type "ValueError") = some true) (any : nsIn K cStatics "thirdparty.any" = some none)
    (l : K.lookup fI = some ⟨oc, od, .func (ksFn "__init__" q (defArgs st) (defBody st) (defScope st) .none .none doc pm an (.ref cda) ct cc), osl⟩) (hcd : codeIn K (.ref cda) q = true) (lc : K.lookup cda = some ⟨ccl, cdd, .fields vs, ccs⟩) (v2 : vs[2]? = some (.str file tf))
    (hf : ((P.main.file : Str) == file) = true) (top : (P.main.scope.names.lookup ("super" : Str)).isSome = false) (lcc : K.lookup cc = some ⟨cl, cld, .cell (some (.ref C)), csl⟩) : XK1 P K mg x f C := by
  obtain ⟨msg, j, p0, p1, p2, p3, p4, p5, p6, p7, p8, p9, hb, hr⟩ := T.body
  obtain ⟨hr1, hr2⟩ := hr fI cc cda
  rw [hb] at l
  exact ⟨o, gC, ms, no, q, msg, defArgs st, defScope st, fI, cc, cda, doc, pm, ct, an, j, p0, p1, p2, p3, p4, p5, p6, p7, p8, p9, iC, tI, ⟨sup, self, isV, any, ⟨_, _, _, l⟩, T.par, ⟨_, _, _, _, _, _, lc, v2, hf⟩, ⟨_, _, _, lcc⟩, T.hks, T.hkc, T.hkl, T.kind, top⟩, hcd, hr1, hr2, fun s u v => T.bind _ _ _ _ _ _ _ s u v⟩
theorem xk2_mk (T : XiT2 st q f f2) (o : L2.OexC K C) (gC : mg x = some (.ref C)) (ms : mg "super" = none) (no : findIn K (.ref C) f = some none) (no2 : findIn K (.ref C) f2 = some none) (iC : findIn K (.ref C) "__init__" = some (some (.ref fI))) (tI : typeIn K (.ref fI) = some (.type "function"))
    (sup : ks_superIn K C C "__init__" = some (some (.builtin "ValueError.__init__"))) (self : mroIn K C (.ref C) = some true) (isV : subIn K (.ref C) (.type "ValueError") = some true) (any : nsIn K cStatics "thirdparty.any" = some none)
    (l : K.lookup fI = some ⟨oc, od, .func (ksFn "__init__" q (defArgs st) (defBody st) (defScope st) .none .none doc pm an (.ref cda) ct cc), osl⟩) (hcd : codeIn K (.ref cda) q = true) (lc : K.lookup cda = some ⟨ccl, cdd, .fields vs, ccs⟩) (v2 : vs[2]? = some (.str file tf))
    (hf : ((P.main.file : Str) == file) = true) (top : (P.main.scope.names.lookup ("super" : Str)).isSome = false) (lcc : K.lookup cc = some ⟨cl, cld, .cell (some (.ref C)), csl⟩) : XK2 P K mg x f f2 C := by
  obtain ⟨msg, j, p0, p1, p2, p3, p4, p5, p6, p7, p8, p9, r6, r7, r8, r9, hb, hr⟩ := T.body
  obtain ⟨hr1, hr2, hr3⟩ := hr fI cc cda
  rw [hb] at l
  exact ⟨o, gC, ms, no, no2, T.ne, q, msg, defArgs st, defScope st, fI, cc, cda, doc, pm, ct, an, j, p0, p1, p2, p3, p4, p5, p6, p7, p8, p9, r6, r7, r8, r9, iC, tI, ⟨sup, self, isV, any, ⟨_, _, _, l⟩, T.par, ⟨_, _, _, _, _, _, lc, v2, hf⟩, ⟨_, _, _, lcc⟩, T.hks, T.hkc, T.hkl, T.kind, top⟩, hcd, hr1, hr2, hr3, fun s u v v2 => T.bind _ _ _ _ _ _ _ s u v v2⟩
end
end
def xfI (f : Str) (fs : List (Str × D)) : Option Int := match fs.lookup f with
  | some (.int i) => some i
  | _ => none
theorem xfI_spec {f : Str} {fs : List (Str × D)} {i : Int} (h : xfI f fs = some i) : fs.lookup f = some (eI i) := by
  unfold xfI at h
  split at h
  · rename_i j e; cases h; exact e
  · cases h
theorem lookup_ne {f : Str} {fs : List (Str × D)} {d : D} (h : fs.lookup f = some d) : fs ≠ [] := fun z => by rw [z] at h; cases h
open Out (Rt)
section
variable {X : Cy} {r : Env2} {G : GD} {D0 : EndsD} {body suite : List Stmt} {b0 : Stmt} {np pos pos' : Pos} {cx : Nat → Addr} {α : Type}
/-- a context of a try's body -/
def TryX (X : Cy) (QX : Exn → Env2 → GD → Prop) (Y : Cy) : Prop := ∃ (pn : List (Addr × Obj)) (xe : Value → Shared → Prop) (F T : Hp), Y.Tk ∧ PassesOwn (model X.prog X.w) X.A X.env xe ∧ Y = { X.toCx.tr pn xe with F0 := F, T := T, QX := QX }
end
theorem PE.weak {X : Cx} {e : Expr} {t t' : TE} (h : PE X e t) (k : ∀ σ H Q, t' σ H Q → t σ H Q) : PE X e t' := ⟨fun pins s σ H Q I q => h.run pins s σ H Q I (k σ H Q q)⟩
open Out (Rt)
/-- a block's context from which the def's own state comes back, its slots as rl tells -/
def LamB (X : Cy) (scope : Scope) (rl : Env2) (Fa : Hp) (Y : Cy) : Prop :=
  ∃ (s : Shared) (H : Hp) (C : Addr) (cl : List (Str × Addr)) (fp : List Addr) (pins : List (Addr × Obj)) (σ0 : L2.St), Y = { X.toCx.blk s H scope (compEnvC scope cl C X.env) fp with F0 := Fa, T := X.T, QX := fun _ _ _ => False } ∧ Ex X.F0 Fa ∧ rl.length = σ0.length ∧
    (∀ (i : Nat) (d : D), rl[i]? = some (.sh d) → ∃ v, σ0[i]? = some (some v) ∧ Rep X.K Fa d v) ∧ ∀ (pins' : List (Addr × Obj)) (σ' : L2.St) (H' : Hp) (s' : Shared), Inv Y.toCx pins' σ' H' s' → Inv X.toCx pins σ0 H' s'
section
variable {X Y : Cy} {tg e elt : Expr} {ifs : List Expr} {r rl : Env2} {G : GD} {pos p : Pos} {Fa : Hp} {scope : Scope}
theorem LamB.k (h : LamB X scope rl Fa Y) : Y.K = X.K := by obtain ⟨_, _, _, _, _, _, _, rfl, _⟩ := h; rfl
theorem LamB.lk {F' T' : Hp} (h : LamB X scope rl Fa Y) (ef : Ex Fa F') (lk : Lk X F' T') : Lk Y F' T' := by
  obtain ⟨_, _, _, _, _, _, _, rfl, ex, _⟩ := h
  exact ⟨lk.t, ef, fun a o ho => (lk.ft a o ho).imp (fun z => ex _ _ z) id⟩
theorem LamB.tk (h : LamB X scope rl Fa Y) : Y.Tk := by
  obtain ⟨_, _, _, _, _, _, _, rfl, _⟩ := h
  exact takes0.imp fun _ _ _ _ ⟨_, _, _, _, _, _, z⟩ => z
end
def Out.seqs {ρ : Type} : List (Out ρ) → Out (List ρ)
  | [] => .ok []
  | m :: ms => m.bind fun v => (Out.seqs ms).bind fun vs => .ok (v :: vs)
open Out (Rt)
section
variable {X : Cy} {tg e elt : Expr} {ifs : List Expr} {sts : List Stmt} {r rl : Env2} {G : GD} {pos p : Pos} {D0 : EndsD} {scope : Scope}
theorem Bas.drop {K : PySem.W.Frag} {F0 T F H : Hp} {G G' : GD} (B : Bas K F0 T F G' H) (h : ∀ a d, G a = some d → G' a = some d) : Bas K F0 T F G H :=
  ⟨B.ff, B.ft, B.fh, fun a d q => B.gh a d (h a d q), fun a o q => B.fg a o (h a o q), fun a o q => B.gt a o (h a o q), B.tk⟩
theorem none_drop {G G' : GD} (h : ∀ a d, G a = some d → G' a = some d) {p : Addr} (q : G' p = none) : G p = none := by
  cases e : G p with
  | none => rfl
  | some d => rw [h p d e] at q; cases q
theorem RtOk.drop {K : PySem.W.Frag} {T F H : Hp} {G G' : GD} (h : ∀ a d, G a = some d → G' a = some d) {x : Res} {v : V} (k : RtOk K T F G' H x v) : RtOk K T F G H x v := by
  cases x with
  | sh d => exact k
  | fr d => obtain ⟨p, k1, k2, k3, k4, k5⟩ := k; exact ⟨p, k1, k2, k3, none_drop h k4, k5⟩
  | pk i => exact k
/-- a def that has made objects of its own: its answers, without them -/
theorem wb_dropR (G0 : GD) (h : WB X sts r G { D0 with rt := fun x G' => (∀ a d, G0 a = some d → G' a = some d) ∧ D0.rt x G0 }) : WB X sts r G D0 := fun F0 T F H σ lk S =>
  (h F0 T F H σ lk S).mono (fun _ _ q => q) (fun _ _ ⟨x, G', F', a, b, c, q⟩ => ⟨x, G0, F', a.drop c, b.drop c, q⟩) (fun _ _ q => q) (fun _ _ q => q)
theorem Frm.sub {G G' : GD} {fp : List Addr} (h : Frm [] G fp G') : ∀ a d, G a = some d → G' a = some d := fun a d q => by
  rw [h.1 a (fun z => nomatch z) (by rw [q]; exact fun z => nomatch z)]; exact q
end
open Out (Rt)
inductive At where
  | s (z : S) | i (n : Int)
deriving DecidableEq
def At.s? : At → Option S
  | .s z => some z
  | .i _ => none
def At.i? : At → Option Int
  | .s _ => none
  | .i n => some n
@[simp] theorem At.s?_s (z : S) : (At.s z).s? = some z := rfl
@[simp] theorem At.s?_i (n : Int) : (At.i n).s? = none := rfl
@[simp] theorem At.i?_s (z : S) : (At.s z).i? = none := rfl
@[simp] theorem At.i?_i (n : Int) : (At.i n).i? = some n := rfl
open Out (Rt)
open Out (Rt)
theorem GS.keep {Ps : List As} {G G' : GD} (h : GS Ps G) (h1 : ∀ b, G b ≠ none → G' b = G b) : GS Ps G' := by
  have := (h.add (P := fun fp _ => fp = []) (fp := []) (G' := G') ⟨fun fp G e a ha => by rw [e] at ha; simp at ha, fun _ _ _ e _ => e⟩ rfl h1 (by simp)).take Ps.length
  rwa [List.take_left] at this
theorem strOk_iff {x : Str} : PyData.strOk x = true ↔ ∀ c, c ∈ x.cps.toList → c < 0x110000 := by
  unfold PyData.strOk
  rw [← Array.all_toList, List.all_eq_true]
  exact ⟨fun h c hc => of_decide_eq_true (h c hc), fun h c hc => decide_eq_true (h c hc)⟩
theorem strOk_cat {x y : Str} (h1 : PyData.strOk x = true) (h2 : PyData.strOk y = true) : PyData.strOk (x ++ y) = true := by
  rw [strOk_iff] at h1 h2 ⊢
  intro c hc
  have hc : c ∈ (x.cps ++ y.cps).toList := hc
  rw [Array.toList_append] at hc
  rcases List.mem_append.mp hc with z | z
  · exact h1 c z
  · exact h2 c z
def zcat (x y : S) : S := ⟨x.1 ++ y.1, strOk_cat x.2 y.2⟩
section
variable {X : Cy} {o e : Expr} {r : Env2} {G : GD} {pos apos cpos p0 : Pos} {D0 : EndsD}
/-- x += e, on texts -/
theorem ws_augT (i : Nat) {x : Str} {n : S} {pos' : Pos} (hN : X.N.Nodup) (hi : X.N[i]? = some x) (hx : Loc X.env.scope x) (hr : r[i]? = some (.sh (eZ n))) (h : WE X e r G fun y r1 G1 => i < r1.length ∧ ∃ m : S, vw r1 y = some (eZ m) ∧ n.1.length + m.1.length ≤ LIM ∧ D0.nx (r1.set i (.sh (eZ (zcat n m)))) G1)
    (hf : X.fn x = true ∨ X.env.scope.names.lookup x = some .local := by first | exact .inl rfl | exact .inr rfl | assumption) : WS X (.AugAssign (.Name x pos') .Add e pos) r G D0 := fun F0 T F H σ lk S =>
  RunS.of (ps_aug hN hi hx peR (fun pins s σ H x y v u Q I r1 r2 h => iop_add_str pins s σ H x y v u Q I r1 r2 h) hf) (by
    obtain ⟨v, h1, h2⟩ := S.slot hr
    cases (show v = .str n.1 from h2)
    refine ⟨.str n.1, h1, (h F0 T F H σ lk S).mono fun v H1 ⟨y, r1, G1, F1, e1, S1, k1, hi', m, q1, ql, q2⟩ => ?_⟩
    exact ⟨n.1, m.1, rfl, (S1.view k1 q1).str, lim_ok ql, r1.set i (.sh (eZ (zcat n m))), G1, F1, S1.set hi' ⟨_, rfl, rfl⟩ (fun d' z => nomatch z), q2⟩)
theorem ti_zipT {α β : Type} {f : α → D} {g : β → D} {a b : Expr} {elts : List Expr} {kk : Nat} {tpos : Pos} {Q : List D → Env2 → GD → Prop} (hg : Gl X "zip") (hm : X.mg "zip" = none)
    (h : WA X [a, b] r G fun ds r1 G1 => ∃ xs ys, ds = [.tup (List.map f xs), .tup (List.map g ys)] ∧ xs.length ≤ LIM ∧ ((xs.zip ys).length ≤ LIM → Q ((xs.zip ys).map (eP f g)) r1 G1))
    (hs : starEach [a, b] X.env = (false, eval a X.env) :: starEach [b] X.env := by rfl) (hpl : (backTo pos (starEach [b] X.env)).any (·.1) = false := by rfl) : WI X (.Tuple elts kk tpos) (.Call (.Name "zip" p0) [a, b] [] pos) r G Q := fun F0 T F H σ lk S =>
  RunI.of (RZ.pi_zipA hg hm paR hs hpl) ((h F0 T F H σ lk S).mono fun vs H1 ⟨ds, r1, G1, F1, e1, S1, k1, xs, ys, hds, hl, q⟩ => by
    subst hds
    obtain ⟨v1, vs1, rfl, ra, v2, vs2, rfl, rb, hz⟩ := k1
    cases (show vs2 = [] from hz)
    obtain ⟨p1, us, rfl, z1, z2⟩ := ra
    obtain ⟨p2, ws, rfl, z3, z4⟩ := rb
    have hlen : (xs.zip ys).length ≤ LIM := by rw [List.length_zip]; exact Nat.le_trans (Nat.min_le_left _ _) hl
    refine ⟨p1, p2, us, ws, rfl, .inr ⟨S1.bas.fh.sqT z1, S1.bas.fh.sqT z3, (xs.zip ys).map (eP f g), r1, G1, F1, e1, S1, fun F H ea eh => ⟨⟨us, ws, eh.sqT (ea.sqT z1), eh.sqT (ea.sqT z3), ?_⟩, fun i d hi => ?_⟩, q hlen⟩⟩
    · have h1 := z2.length
      have h2 := z4.length
      rw [List.length_map] at h1 h2
      rw [List.length_map, List.length_zip]
      omega
    · rw [List.getElem?_map] at hi
      obtain ⟨⟨x, y⟩, hxy, rfl⟩ := Option.map_eq_some_iff.mp hi
      obtain ⟨hx, hy⟩ := List.getElem?_zip_eq_some.mp hxy
      obtain ⟨u, h1, h2⟩ := z2.get (show (xs.map f)[i]? = some (f x) from by rw [List.getElem?_map, hx]; rfl)
      obtain ⟨w, h3, h4⟩ := z4.get (show (ys.map g)[i]? = some (g y) from by rw [List.getElem?_map, hy]; rfl)
      refine ⟨⟨us, ws, u, w, eh.sqT (ea.sqT z1), eh.sqT (ea.sqT z3), h1, h3⟩, fun v H' ⟨p, y1, y2, hx, hp, hH, hy1, hy2⟩ => .inr ⟨p, _, hp, hH, hx, ?_⟩⟩
      have j1 := hy1 us (eh.sqT (ea.sqT z1))
      have j2 := hy2 ws (eh.sqT (ea.sqT z3))
      rw [h1] at j1; cases j1
      rw [h3] at j2; cases j2
      exact rep_pair (none_F eh hp) (Rep.mono ea _ _ h2) (Rep.mono ea _ _ h4))
end
def RegM (G0 : GD) (rows : List (Addr × List Int)) (G : GD) : Prop := (rows.map (·.1)).Nodup ∧ (∀ p, p ∈ rows → G0 p.1 = none ∧ G p.1 = some (.lst (p.2.map D.int))) ∧ ∀ a, a ∉ rows.map (·.1) → G a = G0 a
theorem RegM.nil (G : GD) : RegM G [] G := ⟨List.nodup_nil, (fun _ h => by cases h), fun _ _ => rfl⟩
theorem RegM.add {G0 G : GD} {rows : List (Addr × List Int)} (h : RegM G0 rows G) {p : Addr} (hp : G p = none) (ns : List Int) : RegM G0 (rows ++ [(p, ns)]) (updG G p (.lst (ns.map D.int))) := by
  obtain ⟨h1, h2, h3⟩ := h
  have hn : p ∉ rows.map (·.1) := fun z => by
    obtain ⟨q, hq, e⟩ := List.mem_map.mp z
    have := (h2 q hq).2
    rw [e, hp] at this; cases this
  refine ⟨?_, fun q hq => ?_, fun a ha => ?_⟩
  · rw [List.map_append, List.nodup_append]
    refine ⟨h1, by simp, fun a ha b hb e => ?_⟩
    rw [List.map_singleton, List.mem_singleton] at hb
    subst hb; subst e; exact hn ha
  · rcases List.mem_append.mp hq with z | z
    · have hne : q.1 ≠ p := fun e => hn (e ▸ List.mem_map.mpr ⟨q, z, rfl⟩)
      exact ⟨(h2 q z).1, by rw [updG_ne hne]; exact (h2 q z).2⟩
    · rw [List.mem_singleton] at z; subst z
      exact ⟨by rw [← h3 p hn]; exact hp, updG_same⟩
  · rw [List.map_append, List.mem_append] at ha
    have hne : a ≠ p := fun e => ha (.inr (by simp [e]))
    rw [updG_ne hne]; exact h3 a fun z => ha (.inl z)
theorem RegM.at {G0 G : GD} {rows : List (Addr × List Int)} (h : RegM G0 rows G) {k : Nat} {p : Addr × List Int} (hk : rows[k]? = some p) : G p.1 = some (.lst (p.2.map D.int)) := (h.2.1 p (List.mem_of_getElem? hk)).2
theorem RegM.set {G0 G : GD} {rows : List (Addr × List Int)} (h : RegM G0 rows G) {k : Nat} {a : Addr} {ns ms : List Int} (hk : rows[k]? = some (a, ns)) : RegM G0 (rows.set k (a, ms)) (updG G a (.lst (ms.map D.int))) := by
  obtain ⟨h1, h2, h3⟩ := h
  have hm : (rows.set k (a, ms)).map (·.1) = rows.map (·.1) := by
    refine List.ext_getElem? fun j => ?_
    rw [List.getElem?_map, List.getElem?_map]
    by_cases e : k = j
    · subst e
      rw [List.getElem?_set_self (List.getElem?_eq_some_iff.mp hk).1, hk]; rfl
    · rw [List.getElem?_set_ne e]
  refine ⟨by rw [hm]; exact h1, fun q hq => ?_, fun b hb => ?_⟩
  · obtain ⟨j, hj⟩ := List.mem_iff_getElem?.mp hq
    by_cases e : k = j
    · subst e
      rw [List.getElem?_set_self (List.getElem?_eq_some_iff.mp hk).1] at hj
      cases hj
      exact ⟨(h2 _ (List.mem_of_getElem? hk)).1, updG_same⟩
    · rw [List.getElem?_set_ne e] at hj
      have hqm := List.mem_of_getElem? hj
      have hne : q.1 ≠ a := fun z => by
        have i1 : (rows.map (·.1))[j]? = some a := by rw [List.getElem?_map, hj, ← z]; rfl
        have i2 : (rows.map (·.1))[k]? = some a := by rw [List.getElem?_map, hk]; rfl
        obtain ⟨l1, e1⟩ := List.getElem?_eq_some_iff.mp i1
        obtain ⟨l2, e2⟩ := List.getElem?_eq_some_iff.mp i2
        rcases Nat.lt_or_gt_of_ne e with y | y
        · exact List.pairwise_iff_getElem.mp h1 _ _ l2 l1 y (e2.trans e1.symm)
        · exact List.pairwise_iff_getElem.mp h1 _ _ l1 l2 y (e1.trans e2.symm)
      exact ⟨(h2 q hqm).1, by rw [updG_ne hne]; exact (h2 q hqm).2⟩
  · rw [hm] at hb
    have hne : b ≠ a := fun z => hb (z ▸ List.mem_map.mpr ⟨_, List.mem_of_getElem? hk, rfl⟩)
    rw [updG_ne hne]; exact h3 b hb
open Out (Rt)
open Out (Rt)
open Out (Rt)
def LeafV (v : Value) : Prop := (∃ i t, v = Value.int i t) ∨ ∃ c, v = Value.bool c
def FlatT (h : Heap) (b : Addr) : Prop := ∃ o vs n, h.get? b = some o ∧ o.cls = .type "tuple" ∧ o.data = .seq vs n ∧ ∀ v ∈ vs.toList, LeafV v
/-- the tuple at b is the key k, and flat -/
structure FK (P : Program) (w : World) (h : Heap) (k : NestedKey) (b : Addr) : Prop where
  is : (nestedKind P w).is h k b
  flat : FlatT h b
abbrev FRow := NestedKey × Addr
def rowN (w : World) (p : FRow) : Int × Value := (p.1.hash w, .ref p.2)
section
variable {P : Program} {w : World} {A : Around} {E : Value → Shared → Prop} {s : Shared} {k k' : NestedKey} {a b c : Addr} {L : List FRow}
theorem FK.seqs {h h' : Heap} (x : FK P w h k b) (hk : ∀ c o vs n, h.get? c = some o → o.data = .seq vs n → h'.get? c = some o) : FK P w h' k b where
  is := nestedKind_stays.stays hk x.is
  flat := by
    obtain ⟨o, vs, n, e, c, d, r⟩ := x.flat
    exact ⟨o, vs, n, hk _ _ _ _ e d, c, d, r⟩
/-- a set that changes leaves the tuples -/
theorem FK.beside {h h' : Heap} {o : Obj} {es : Array (Int × Value)} {ep : Nat} {t : SetTable} (x : FK P w h k b) (ho : h.get? a = some o) (hd : o.data = .set es ep t) (sb : Heap.SameBut a h h') : FK P w h' k b :=
  x.seqs fun c oc vs n e ed => (sb.2 c fun z => by subst z; rw [ho] at e; cases e; rw [hd] at ed; cases ed).trans e
theorem leaf_class (n : Nat) {v : Value} (h : LeafV v) : ofAClassStatement n v = pure false := by
  rcases h with ⟨i, t, rfl⟩ | ⟨c, rfl⟩ <;> cases n <;> rfl
theorem leaf_hash (n : Nat) {v : Value} (h : LeafV v) : hashByValue n v = pure true := by
  rcases h with ⟨i, t, rfl⟩ | ⟨c, rfl⟩ <;> cases n <;> rfl
theorem FlatT.type {b : Addr} (h : FlatT s.heap b) : s.TypeIs (.ref b) "tuple" := by
  obtain ⟨o, vs, n, e, c, _⟩ := h
  exact ⟨o, e, c⟩
theorem flat_class {Q : Bool → Shared → Prop} (h : FlatT s.heap b) (q : Q false s) : wpAny (model P w) A (ofAClassStatement 8 (.ref b)) Q E s := by
  have hT := h.type
  obtain ⟨o, vs, n, ho, _, hd, hl⟩ := h
  have tt : ((("tuple" : String) == "tuple") = true) := by decide
  unfold ofAClassStatement
  refine wpAny_bind (wpAny_typeOf hT ?_)
  dsimp only
  simp only [tt, if_true, Bool.not_true, Bool.false_eq_true, if_false]
  try refine wpAny_bind (wpAny_pure ?_)
  try simp only [Bool.not_true, Bool.false_eq_true, if_false]
  show wpAny _ _ (seqItems? (.ref b) >>= _) _ _ s
  refine wpAny_bind (wpAny_seqItems ho hd ?_)
  dsimp only
  refine wpAny_bind ?_
  show wpAny _ _ (forIn vs _ _) _ _ s
  rw [← Array.forIn_toList]
  refine wpAny_forIn_list _ (fun rest r s' => (∀ v ∈ rest, LeafV v) ∧ r.1 = none ∧ s' = s) _ ?_ ?_ _ _ ⟨hl, rfl, rfl⟩
  · rintro v rest r s' ⟨hv, hr, rfl⟩
    rw [leaf_class _ (hv v List.mem_cons_self)]
    refine wpAny_bind (wpAny_pure ?_)
    simp only [Bool.false_eq_true, if_false]
    exact wpAny_pure ⟨fun u hu => hv u (List.mem_cons_of_mem _ hu), rfl, rfl⟩
  · rintro ⟨r1, r2⟩ s' ⟨_, hr, rfl⟩
    simp only at hr
    subst hr
    exact wpAny_pure q
theorem flat_hash {Q : Bool → Shared → Prop} (h : FlatT s.heap b) (q : Q true s) : wpAny (model P w) A (hashByValue 8 (.ref b)) Q E s := by
  have hT := h.type
  obtain ⟨o, vs, n, ho, _, hd, hl⟩ := h
  unfold hashByValue
  refine wpAny_bind (wpAny_specialOf hT F.slot_tuple_hash.lookup ?_)
  show wpAny _ _ (seqItems? (.ref b) >>= _) _ _ s
  refine wpAny_bind (wpAny_seqItems ho hd ?_)
  refine wpAny_bind ?_
  show wpAny _ _ (forIn vs _ _) _ _ s
  rw [← Array.forIn_toList]
  refine wpAny_forIn_list _ (fun rest r s' => (∀ v ∈ rest, LeafV v) ∧ r.1 = none ∧ s' = s) _ ?_ ?_ _ _ ⟨hl, rfl, rfl⟩
  · rintro v rest r s' ⟨hv, hr, rfl⟩
    rw [leaf_hash _ (hv v List.mem_cons_self)]
    refine wpAny_bind (wpAny_pure ?_)
    simp only [Bool.not_true, Bool.false_eq_true, if_false]
    exact wpAny_pure ⟨fun u hu => hv u (List.mem_cons_of_mem _ hu), rfl, rfl⟩
  · rintro ⟨r1, r2⟩ s' ⟨_, hr, rfl⟩
    simp only at hr
    subst hr
    exact wpAny_pure q
theorem flat_unseen {Q : Bool → Shared → Prop} (hx : FK P w s.heap k b) {ys : List Value} (hy : ∀ y ∈ ys, ∃ k' c, y = Value.ref c ∧ FK P w s.heap k' c) (q : Q false s) : wpAny (model P w) A (searchCouldBeSeen (.ref b) ys) Q E s := by
  unfold searchCouldBeSeen
  refine wpAny_bind (wpAny_forIn_list _ (fun rest r s' => (∀ y ∈ rest, ∃ k' c, y = Value.ref c ∧ FK P w s.heap k' c) ∧ r.1 = none ∧ s' = s) _ ?_ ?_ _ _ ⟨hy, rfl, rfl⟩)
  · rintro v rest r s' ⟨hv, hr, rfl⟩
    obtain ⟨k', c, rfl, hc⟩ := hv v List.mem_cons_self
    have tl := fun u hu => hv u (List.mem_cons_of_mem _ hu)
    dsimp only
    by_cases z : (b == c || (carriedByValue (.ref b) && carriedByValue (.ref c))) = true
    · exact wp_if_pos z (wpAny_pure ⟨tl, rfl, rfl⟩)
    · refine wp_if_neg z (wpAny_bind ((nestedKind P w).quiet hx.is ?_))
      simp only [Bool.not_true, Bool.false_eq_true, if_false]
      refine wpAny_bind ((nestedKind P w).quiet hc.is ?_)
      simp only [Bool.not_true, Bool.false_eq_true, if_false]
      refine wpAny_bind (flat_class hx.flat ?_)
      simp only [Bool.false_eq_true, if_false]
      refine wpAny_bind (flat_class hc.flat ?_)
      simp only [Bool.false_eq_true, if_false]
      exact wpAny_pure ⟨tl, rfl, rfl⟩
  · rintro ⟨r1, r2⟩ s' ⟨_, hr, rfl⟩
    simp only at hr
    subst hr
    exact wpAny_pure q
end
/-- the set at a holds the rows of L, in the order of its table t -/
structure NS (P : Program) (w : World) (h : Heap) (a : Addr) (L : List FRow) (es : Array (Int × Value)) (ep : Nat) (t : SetTable) : Prop where
  obj : ∃ o, h.get? a = some o ∧ o.ExactSet ∧ o.data = .set es ep t
  rows : es.toList = L.map (rowN w)
  tab : TabOk t (L.map fun p => p.1.hash w)
  diff : (L.map (·.1)).Nodup
  tup : ∀ p ∈ L, FK P w h p.1 p.2
  plain : t.plain = true
  led : w.params.followText "set-order" = true ∨ t.led = true
  room : L.length * 5 < t.mask * 3
section
variable {P : Program} {w : World} {A : Around} {E : Value → Shared → Prop} {s : Shared} {k : NestedKey} {a b : Addr} {L : List FRow} {es : Array (Int × Value)} {ep : Nat} {t : SetTable}
theorem NS.len (R : NS P w s.heap a L es ep t) : es.size = L.length := by
  rw [← Array.length_toList, R.rows, List.length_map]
theorem NS.placed (R : NS P w s.heap a L es ep t) : t.place.toList.length = L.length := by
  rw [Array.length_toList, R.tab.sz, List.length_map]
theorem NS.fits (R : NS P w s.heap a L es ep t) : t.fits es.size = true := by
  have h1 := R.placed
  have h2 := R.len
  have h3 := R.room
  rw [Array.length_toList] at h1
  unfold SetTable.fits SetTable.fill
  rw [R.tab.dm, Bool.and_eq_true, beq_iff_eq, decide_eq_true_eq]
  show t.place.size = es.size ∧ t.place.size + 0 ≤ t.mask
  omega
theorem NS.ent (R : NS P w s.heap a L es ep t) {i : Nat} {p : FRow} (h : L[i]? = some p) : es[i]? = some (rowN w p) := by
  rw [← Array.getElem?_toList, R.rows, List.getElem?_map, h]; rfl
theorem NS.stays (R : NS P w s.heap a L es ep t) : ¬ t.gaveWay = true := by
  unfold SetTable.gaveWay
  rw [mask_odd R.tab.mok]; decide
/-- the hash that stands at a place of the table -/
abbrev hashAt (es : Array (Int × Value)) (i : Nat) : Int := (es[i]?.map (·.1)).getD 0
theorem NS.hash (R : NS P w s.heap a L es ep t) {i : Nat} {p : FRow} (h : L[i]? = some p) : hashAt es i = p.1.hash w := by
  unfold hashAt; rw [R.ent h]; rfl
/-- step c of the way of a hash -/
abbrev stepN (t : SetTable) (h : Int) (c : Nat) : SetTable.Probe := nth t.mask (runAt t.mask (SetTable.bits h % (t.mask + 1)) (SetTable.bits h)) c
theorem nth_pure (m : Nat) : ∀ (n : Nat) (p : SetTable.Probe), p.dummy = none → (nth m p n).dummy = none
  | 0, _, h => h
  | n + 1, p, h => nth_pure m n _ (by unfold adv; split <;> exact h)
theorem stepN_on (t : SetTable) (h : Int) (c q : Nat) : nth t.mask (stepN t h c) q = stepN t h (c + q) := (nth_add t.mask c _ q).symm
/-- a row with this key comes at or behind step c -/
def Ahead (t : SetTable) (L : List FRow) (k : NestedKey) (h : Int) (c K : Nat) : Prop := ∀ (i : Nat) (p : FRow), L[i]? = some p → p.1 = k → ∃ c', c ≤ c' ∧ c' < K ∧ t.place.toList[i]? = some (way t.mask h c')
/-- one look at the table from step c on: the empty slot, or a row of the same hash whose step is known -/
theorem NS.look (R : NS P w s.heap a L es ep t) (k : NestedKey) {K c : Nat} (hKf : K < 10 * SetTable.turns t.mask) (hK : way t.mask (k.hash w) K ∉ t.place.toList) (hB : ∀ c, c < K → way t.mask (k.hash w) c ∈ t.place.toList) (hc : c ≤ K) (hA : Ahead t L k (k.hash w) c K) :
    (k ∉ L.map (·.1) ∧ t.probe (hashAt es) (k.hash w) (stepN t (k.hash w) c) = some (.empty (way t.mask (k.hash w) K) none)) ∨
    ∃ d i p, c ≤ d ∧ d < K ∧ L[i]? = some p ∧ t.place.toList[i]? = some (way t.mask (k.hash w) d) ∧ t.slot (way t.mask (k.hash w) d) = .live i ∧ (p.1 ≠ k → Ahead t L k (k.hash w) (d + 1) K) ∧
      t.probe (hashAt es) (k.hash w) (stepN t (k.hash w) c) = some (.candidate (way t.mask (k.hash w) d) i (stepN t (k.hash w) (d + 1))) := by
  have jj : ∀ q, (nth t.mask (stepN t (k.hash w) c) q).j = way t.mask (k.hash w) (c + q) := fun q => congrArg SetTable.Probe.j (stepN_on t _ c q)
  have cK : c + (K - c) = K := by omega
  rcases go_spec t R.tab.ris R.tab.dm (hashAt es) (k.hash w) (10 * SetTable.turns t.mask) (K - c) (stepN t (k.hash w) c) (nth_pure _ _ _ rfl) (by omega) (fun q hq => by rw [jj]; exact hB _ (by omega)) (by rw [jj, cK]; exact hK) with ⟨q, i, hq, hi, hh, hno, hp⟩ | ⟨hno, hp⟩
  · right
    rw [jj] at hi
    have hil : i < L.length := by rw [← R.placed]; exact (List.getElem?_eq_some_iff.mp hi).1
    obtain ⟨p, hpi⟩ : ∃ p, L[i]? = some p := ⟨_, List.getElem?_eq_getElem hil⟩
    refine ⟨c + q, i, p, Nat.le_add_right _ _, by omega, hpi, hi, slot_live R.tab.ris hi, fun hne i' p' h1 h2 => ?_, ?_⟩
    · obtain ⟨c', a1, a2, a3⟩ := hA i' p' h1 h2
      refine ⟨c', ?_, a2, a3⟩
      by_cases z : c' < c + q
      · exact absurd ((R.hash h1).trans (congrArg (NestedKey.hash w) h2)) (hno (c' - c) i' (by omega) (by rw [jj, show c + (c' - c) = c' by omega]; exact a3))
      · by_cases y : c' = c + q
        · subst y
          have e := (slot_live R.tab.ris a3).symm.trans (slot_live R.tab.ris hi)
          injection e with e
          subst e
          rw [hpi] at h1
          cases h1
          exact absurd h2 hne
        · omega
    · unfold SetTable.probe
      have e2 := stepN_on t (k.hash w) c (q + 1)
      rw [jj, e2] at hp
      exact hp
  · left
    refine ⟨fun hm => ?_, ?_⟩
    · obtain ⟨p, hp1, hp2⟩ := List.mem_map.mp hm
      obtain ⟨i, hi⟩ := List.getElem?_of_mem hp1
      obtain ⟨c', a1, a2, a3⟩ := hA i p hi hp2
      exact hno (c' - c) i (by omega) (by rw [jj, show c + (c' - c) = c' by omega]; exact a3) ((R.hash hi).trans (congrArg (NestedKey.hash w) hp2))
    · unfold SetTable.probe
      rw [jj, cK] at hp
      exact hp
end
section
variable {P : Program} {w : World} {A : Around} {E : Value → Shared → Prop} {s : Shared} {k : NestedKey} {a b : Addr} {L : List FRow} {es : Array (Int × Value)} {ep : Nat} {t : SetTable}
theorem NS.search (R : NS P w s.heap a L es ep t) (hx : FK P w s.heap k b) (hu : A.units + 8 < cLine) {K : Nat} (hKf : K < 10 * SetTable.turns t.mask) (hK : way t.mask (k.hash w) K ∉ t.place.toList) (hB : ∀ c, c < K → way t.mask (k.hash w) c ∈ t.place.toList)
    {Q : SetFound → Shared → Prop} (hin : k ∈ L.map (·.1) → Q (.there none) s) (hout : k ∉ L.map (·.1) → Q (.free (way t.mask (k.hash w) K) false) s) :
    ∀ (f c : Nat) (st : Option SetTable.Probe), c ≤ K → K < c + f → st.getD (t.probeStart (k.hash w)) = stepN t (k.hash w) c → Ahead t L k (k.hash w) c K → wpAny (model P w) A (setSearchFrom a (.ref b) (k.hash w) true f st) Q E s := by
  obtain ⟨o, ho, hex, hd⟩ := R.obj
  intro f
  induction f with
  | zero => intro c st h1 h2; omega
  | succ f ih =>
    intro c st hc hf hst hA
    rw [setSearchFrom_succ]
    refine wpAny_bind (wpAny_setState_of ho hd R.fits ?_)
    dsimp only
    refine wp_if_neg R.stays ?_
    try refine wpAny_bind (wpAny_pure ?_)
    rw [hst]
    rcases R.look k hKf hK hB hc hA with ⟨hno, hp⟩ | ⟨d, i, p, h1, h2, hpi, hpl, hsl, hA', hp⟩
    · unfold hashAt at hp
      rw [hp]
      exact wpAny_pure (hout hno)
    · unfold hashAt at hp
      rw [hp]
      dsimp only
      have hmem := List.mem_of_getElem? hpi
      have go : wpAny (model P w) A (searchRest a (.ref b) (k.hash w) true f es t (way t.mask (k.hash w) d) i (stepN t (k.hash w) (d + 1))) Q E s := by
        unfold searchRest
        rw [R.ent hpi]
        show wpAny _ _ (holding [Value.ref p.2] (eqBool (.ref p.2) (.ref b)) >>= _) _ _ s
        refine wpAny_bind (wpAny_holding ((nestedKind P w).eqBool hu (R.tup p hmem).is hx.is ?_))
        refine wpAny_bind (wpAny_setState_of ho hd R.fits ?_)
        dsimp only
        by_cases z : p.1 = k
        · exact wp_if_pos (by simp [z]) (wpAny_pure (hin (List.mem_map.mpr ⟨p, hmem, z⟩)))
        · refine wp_if_neg (by simp [z]) ?_
          try refine wpAny_bind (wpAny_pure ?_)
          rw [show t.sameMemory t.moves t.mask = some true from if_pos (beq_self_eq_true _)]
          simp only [if_true, hsl, R.ent hpi, rowN]
          refine wpAny_bind (wpAny_isSame_ref_self (wpAny_bind (wpAny_pure ?_)))
          simp only [if_true]
          refine wp_if_neg (by simp [z]) ?_
          exact ih (d + 1) _ (by omega) (by omega) rfl (hA' z)
      by_cases z : t.led = true
      · refine wp_if_neg (by simp [z]) ?_
        try refine wpAny_bind (wpAny_pure ?_)
        exact go
      · refine wp_if_pos (by simp [z]) (wpAny_bind (flat_unseen hx (fun y hy => ?_) ?_))
        · obtain ⟨e, he, rfl⟩ := List.mem_map.mp hy
          have he' : e ∈ es.toList := by
            have : e ∈ es ∧ e.1 = k.hash w := by simpa using he
            simpa using this.1
          rw [R.rows] at he'
          obtain ⟨p2, q1, rfl⟩ := List.mem_map.mp he'
          exact ⟨p2.1, p2.2, rfl, R.tup p2 q1⟩
        · refine wp_if_neg (by decide) ?_
          try refine wpAny_bind (wpAny_pure ?_)
          exact go
theorem NS.find (R : NS P w s.heap a L es ep t) (hx : FK P w s.heap k b) (hu : A.units + 8 < cLine) {Q : SetFound → Shared → Prop} (hin : k ∈ L.map (·.1) → Q (.there none) s)
    (hout : ∀ K, k ∉ L.map (·.1) → way t.mask (k.hash w) K ∉ t.place.toList → (∀ c, c < K → way t.mask (k.hash w) c ∈ t.place.toList) → Q (.free (way t.mask (k.hash w) K) false) s) :
    wpAny (model P w) A (setSearch a (.ref b) (k.hash w) true) Q E s := by
  have hr := R.room
  obtain ⟨K, hKf, hK, hB⟩ := R.tab.first (by rw [List.length_map]; omega) (k.hash w)
  have hb : 10 * SetTable.turns t.mask ≤ 1420 := by
    unfold SetTable.turns
    rcases R.tab.mok with e | e | e <;> rw [e] <;> decide
  unfold setSearch
  refine R.search hx hu hKf hK hB hin (fun h => hout K h hK hB) 100000 0 none (Nat.zero_le _) (by omega) rfl fun i p h1 h2 => ?_
  have hil : i < t.place.toList.length := by rw [R.placed]; exact (List.getElem?_eq_some_iff.mp h1).1
  have hj := List.getElem?_eq_getElem hil
  obtain ⟨c, h3, h4⟩ := R.tab.before (h := k.hash w) hK (i := i) (by rw [List.getElem?_map, h1, ← h2]; rfl) hj
  exact ⟨c, Nat.zero_le _, h3, by rw [hj, h4]⟩
theorem range_pick {α : Type} : ∀ l : List α, (List.range l.length).filterMap (fun i => l[i]?) = l
  | [] => rfl
  | x :: l => by
    rw [List.length_cons, List.range_succ_eq_map, List.filterMap_cons_some (f := fun i => (x :: l)[i]?) (a := 0) (b := x) rfl, List.filterMap_map]
    exact congrArg (x :: ·) (range_pick l)
theorem pick_map {α β : Type} (f : α → β) (l : List α) : ∀ o : List Nat, o.filterMap (fun i => (l.map f)[i]?) = (o.filterMap fun i => l[i]?).map f
  | [] => rfl
  | i :: o => by
    have ih := pick_map f l o
    rw [List.filterMap_cons, List.filterMap_cons, List.getElem?_map]
    cases l[i]? with
    | none => exact ih
    | some x => exact congrArg (f x :: ·) ih
theorem pick_getD {α β : Type} [Inhabited β] (f : α → β) (l : List α) (g : Nat → β) (hg : ∀ i x, l[i]? = some x → g i = f x) : ∀ o : List Nat, (∀ i ∈ o, i < l.length) → o.map g = (o.filterMap fun i => l[i]?).map f
  | [], _ => rfl
  | i :: o, h => by
    have e := List.getElem?_eq_getElem (h i List.mem_cons_self)
    rw [List.filterMap_cons, e, List.map_cons, pick_getD f l g hg o fun j hj => h j (List.mem_cons_of_mem _ hj), hg i _ e]
    rfl
/-- all rows laid anew in a table of 32 places -/
theorem ns_relay {o : Obj} (ho : s.heap.get? a = some o) (hex : o.ExactSet) (hd : o.data = .set es ep t) (hrows : es.toList = L.map (rowN w)) (hf : t.fits es.size = true) (diff : (L.map (·.1)).Nodup) (tup : ∀ p ∈ L, FK P w s.heap p.1 p.2)
    (pl : t.plain = true) (ld : w.params.followText "set-order" = true ∨ t.led = true) (h5 : L.length = 5) {Q : Unit → Shared → Prop}
    (q : ∀ h' L' es' ep' t', Heap.SameBut a s.heap h' → NS P w h' a L' es' ep' t' → L'.Perm L → Q () { s with heap := h' }) : wpAny (model P w) A (setRelay a (SetTable.grown 5)) Q E s := by
  have hn : es.size = 5 := by rw [← Array.length_toList, hrows, List.length_map, h5]
  obtain ⟨t', ord, e1, e2, T, e3, e4, e5, e6⟩ := relaid_ok t (hs := es.map (·.1)) (wanted := SetTable.grown 5) (M := 31) (by rw [size_20]) (.inr (.inl rfl)) (by rw [Array.size_map, hn]; decide)
  rw [Array.size_map, hn, ← h5] at e2
  have hin : ∀ i ∈ ord.toList, i < L.length := fun i hi => List.mem_range.mp (e2.mem_iff.mp hi)
  have eg : ∀ i : Nat, es[i]? = (L.map (rowN w))[i]? := fun i => by rw [← Array.getElem?_toList, hrows]
  have hes : (ord.filterMap (es[·]?)).toList = (ord.toList.filterMap fun i => L[i]?).map (rowN w) := by
    rw [Array.toList_filterMap, ← pick_map]
    exact congrArg (fun f => List.filterMap f ord.toList) (funext eg)
  have hpm : (ord.toList.filterMap fun i => L[i]?).Perm L := by
    have := e2.filterMap (fun i => L[i]?)
    rwa [range_pick] at this
  rw [pick_getD (fun p : FRow => p.1.hash w) L _ (fun i x hx => by
    have e : (es.map (·.1))[i]? = some (x.1.hash w) := by rw [Array.getElem?_map, eg, List.getElem?_map, hx]; rfl
    simp [Array.getD_eq_getD_getElem?, e]) _ hin] at T
  generalize (ord.toList.filterMap fun i => L[i]?) = L' at hes hpm T
  have hsz : (ord.filterMap (es[·]?)).size = 5 := by rw [← Array.length_toList, hes, List.length_map, hpm.length_eq, h5]
  rw [setRelay_eq]
  refine wpAny_bind (wpAny_setState_of ho hd hf ?_)
  dsimp only
  refine wp_if_neg (by rw [size_20, sizeLine_eq]; omega) ?_
  try refine wpAny_bind (wpAny_pure ?_)
  rw [e1]
  dsimp only
  refine wpAny_bind (wp_if_neg (by rw [hsz, hn]; simp) ?_)
  try refine wpAny_bind (wpAny_pure ?_)
  refine wpAny_pure ?_
  dsimp only
  refine wpAny_storeSet_of ho hd ?_ (by rw [hsz, sizeLine_eq]; omega)
  have sb : Heap.SameBut a s.heap (s.heap.update a (Obj.putSet (ord.filterMap (es[·]?)) t')) := Heap.SameBut.update ..
  exact q _ L' _ (ep + 1) t' sb ⟨⟨_, store_at ho hd, ⟨hex.1, hex.2.1, hex.2.2⟩, rfl⟩, hes, T, (hpm.map (·.1)).nodup_iff.mpr diff, fun p hp => (tup p (hpm.mem_iff.mp hp)).beside ho hd sb, by rw [e5]; exact pl, by rw [e4]; exact ld, by rw [hpm.length_eq, h5, e3]; decide⟩ hpm
/-- what a set holds when k was put into L -/
def Put (L : List FRow) (k : NestedKey) (b : Addr) (L' : List FRow) : Prop := (k ∈ L.map (·.1) → L' = L) ∧ (k ∉ L.map (·.1) → L'.Perm ((k, b) :: L))
theorem NS.put (R : NS P w s.heap a L es ep t) (hx : FK P w s.heap k b) (hu : A.units + 8 < cLine) (few : k ∉ L.map (·.1) → L.length < 18) {Q : Bool → Shared → Prop}
    (q : ∀ z h' L' es' ep' t', Heap.SameBut a s.heap h' → NS P w h' a L' es' ep' t' → Put L k b L' → Q z { s with heap := h' }) : wpAny (model P w) A (setAddHashed a (.ref b) (k.hash w)) Q E s := by
  obtain ⟨o, ho, hex, hd⟩ := R.obj
  have hlen := R.len
  have hroom := R.room
  unfold setAddHashed
  refine wpAny_holding ?_
  rw [show (100000 : Nat) = 99999 + 1 from rfl, setAddHashedIn_succ]
  refine wpAny_bind (wpAny_setState_of ho hd R.fits ?_)
  dsimp only
  refine wp_if_neg (by simp [byScan, Value.scannable]) ?_
  try refine wpAny_bind (wpAny_pure ?_)
  refine wpAny_bind (R.find hx hu (fun hm => ?_) fun K hm hK hB => ?_)
  · exact wpAny_pure (q false s.heap L es ep t (Heap.SameBut.refl a s.heap) R ⟨fun _ => rfl, fun z => absurd hm z⟩)
  have few := few hm
  dsimp only
  refine wpAny_bind (wpAny_setState_of ho hd R.fits ?_)
  dsimp only
  obtain ⟨g1, g2, g3, g4, g5, g6, g7, g8, g9⟩ := R.tab.put hK hB
  rw [List.length_map] at g2 g9
  generalize hj : way t.mask (k.hash w) K = j at g1 g2 g3 g4 g5 g6 g7 g8 g9 ⊢
  generalize hn : SetTable.below t.place j = n at g1 g2 g3
  generalize hp : t.put j = tp at g1 g3 g4 g5 g6 g7 g8 g9 ⊢
  obtain ⟨t1, n1⟩ := tp
  dsimp only at g1 g3 g4 g5 g6 g7 g8 g9 ⊢
  subst g1
  have pl1 : t1.plain = true := g6.trans R.plain
  have ld1 : w.params.followText "set-order" = true ∨ t1.led = true := by rw [g5]; exact R.led
  first
    | (refine wpAny_bind ?_; refine wp_if_pos pl1 ?_; refine flat_hash hx.flat ?_)
    | refine wp_if_pos pl1 (wpAny_bind (flat_hash hx.flat ?_))
  simp only [if_true]
  have pm : (L.take n1 ++ (k, b) :: L.drop n1).Perm ((k, b) :: L) := by
    have h : (L.take n1 ++ (k, b) :: L.drop n1).Perm ((k, b) :: (L.take n1 ++ L.drop n1)) := List.perm_middle
    rwa [List.take_append_drop] at h
  have hin : (SetTable.insertAt es n1 (k.hash w, Value.ref b)).toList = (L.take n1 ++ (k, b) :: L.drop n1).map (rowN w) := by
    rw [SetTable.toList_insertAt, R.rows, List.map_append, List.map_cons, List.map_take, List.map_drop]; rfl
  have hh : (L.map fun p => p.1.hash w).take n1 ++ k.hash w :: (L.map fun p => p.1.hash w).drop n1 = (L.take n1 ++ (k, b) :: L.drop n1).map fun p => p.1.hash w := by
    rw [List.map_append, List.map_cons, List.map_take, List.map_drop]
  rw [hh] at g3
  generalize L.take n1 ++ (k, b) :: L.drop n1 = L1 at pm hin g3
  generalize SetTable.insertAt es n1 (k.hash w, Value.ref b) = es1 at hin ⊢
  have l1 : L1.length = L.length + 1 := pm.length_eq
  have hs1 : es1.size = L.length + 1 := by rw [← Array.length_toList, hin, List.length_map, l1]
  have diff1 : (L1.map (·.1)).Nodup := (pm.map (·.1)).nodup_iff.mpr (List.nodup_cons.mpr ⟨hm, R.diff⟩)
  refine wpAny_bind (wpAny_storeSet_of ho hd ?_ (by rw [hs1, sizeLine_eq]; omega))
  have sb : Heap.SameBut a s.heap (s.heap.update a (Obj.putSet es1 t1)) := Heap.SameBut.update ..
  have ho1 := store_at (es' := es1) (t' := t1) ho hd
  generalize s.heap.update a (Obj.putSet es1 t1) = h1 at sb ho1 ⊢
  have tup1 : ∀ p ∈ L1, FK P w h1 p.1 p.2 := fun p hp => by
    rcases List.mem_cons.mp (pm.mem_iff.mp hp) with e | hp
    · subst e; exact hx.beside ho hd sb
    · exact (R.tup p hp).beside ho hd sb
  have put1 : Put L k b L1 := ⟨fun z => absurd z hm, fun _ => pm⟩
  have ftf : t1.tooFull = decide ((L.length + 1) * 5 ≥ t.mask * 3) := by
    unfold SetTable.tooFull
    rw [g9, g4]
  by_cases z : t1.tooFull = true
  · have hfull := z
    rw [ftf, decide_eq_true_eq] at hfull
    have h4 : t.mask = 7 ∧ L.length = 4 := by
      rcases R.tab.mok with e | e | e <;> rw [e] at hfull hroom
      · exact ⟨e, by omega⟩
      · omega
      · omega
    have pl : t1.place.size = es1.size := by
      have := g3.sz
      rw [List.length_map, l1] at this
      rw [this, hs1]
    have fit1 : t1.fits es1.size = true := by
      unfold SetTable.fits SetTable.fill
      rw [g3.dm, Bool.and_eq_true, beq_iff_eq, decide_eq_true_eq]
      refine ⟨pl, ?_⟩
      show t1.place.size + 0 ≤ t1.mask
      rw [pl, hs1, g4, h4.1, h4.2]; decide
    first
      | (refine wpAny_bind ?_; refine wp_if_pos (by simp [z]) ?_)
      | (refine wp_if_pos (by simp [z]) ?_; refine wpAny_bind ?_)
    rw [hlen, h4.2]
    refine ns_relay (s := { s with heap := h1 }) ho1 ⟨hex.1, hex.2.1, hex.2.2⟩ rfl hin fit1 diff1 tup1 pl1 ld1 (by rw [l1, h4.2]) fun h2 L2 es2 ep2 t2 sb2 R2 pm2 => ?_
    exact wpAny_pure (q true h2 L2 es2 ep2 t2 (sb.trans sb2) R2 ⟨fun y => absurd y hm, fun _ => pm2.trans pm⟩)
  · have hfull := z
    rw [ftf, decide_eq_true_eq] at hfull
    first
      | refine wp_if_neg (by simp [z]) ?_
      | (refine wpAny_bind ?_; refine wp_if_neg (by simp [z]) ?_; refine wpAny_pure ?_)
    exact wpAny_pure (q true h1 L1 es1 (ep + 1) t1 sb ⟨⟨_, ho1, ⟨hex.1, hex.2.1, hex.2.2⟩, rfl⟩, hin, g3, diff1, tup1, pl1, ld1, by rw [l1, g4]; omega⟩ put1)
end
/-- what stands in the set when the rows xs went in -/
structure InN (xs L : List FRow) : Prop where
  sub : ∀ p ∈ L, p ∈ xs
  all : ∀ p ∈ xs, p.1 ∈ L.map (·.1)
theorem InN.next {xs L L' : List FRow} {k : NestedKey} {b : Addr} (g : InN xs L) (h : Put L k b L') : InN (xs ++ [(k, b)]) L' := by
  by_cases z : k ∈ L.map (·.1)
  · rw [h.1 z]
    refine ⟨fun p hp => List.mem_append_left _ (g.sub p hp), fun p hp => ?_⟩
    rcases List.mem_append.mp hp with y | y
    · exact g.all p y
    · rw [List.mem_singleton.mp y]; exact z
  · have pm := h.2 z
    refine ⟨fun p hp => ?_, fun p hp => ?_⟩
    · rcases List.mem_cons.mp (pm.mem_iff.mp hp) with y | y
      · rw [y]; exact List.mem_append_right _ List.mem_cons_self
      · exact List.mem_append_left _ (g.sub p y)
    · rw [(pm.map (·.1)).mem_iff, List.map_cons]
      rcases List.mem_append.mp hp with y | y
      · exact List.mem_cons_of_mem _ (g.all p y)
      · rw [List.mem_singleton.mp y]; exact List.mem_cons_self
open Out (Rt)
open Out (Rt)
open Out (Rt)
open Out (Rt)
open Out (Rt)
open Out (Rt)
open Out (Rt)
open Out (Rt)
open Out (Rt)
open Out (Rt)
def putSN (i : Nat) : List Nat → List Nat
  | [] => [i]
  | k :: ks => if k = i then k :: ks else k :: putSN i ks
def putSD (i : Nat) (d : D) : List Nat → List D → List D
  | [], _ => [d]
  | k :: ks, x :: xs => if k = i then d :: xs else x :: putSD i d ks xs
  | _ :: _, [] => []
theorem putSN_len (i : Nat) (d : D) : ∀ (is : List Nat) (ds : List D), is.length = ds.length → (putSN i is).length = (putSD i d is ds).length
  | [], [], _ => rfl
  | [], _ :: _, h => by cases h
  | _ :: _, [], h => by cases h
  | k :: ks, x :: xs, h => by
    unfold putSN putSD
    by_cases e : k = i
    · rw [if_pos e, if_pos e]; exact h
    · rw [if_neg e, if_neg e, List.length_cons, List.length_cons, putSN_len i d ks xs (Nat.succ.inj h)]
/-- what is known of the slots, is and vs side by side -/
def SlK (is : List Nat) (vs : List V) (us : List (Option V)) : Prop := ∀ (j i : Nat) (v : V), is[j]? = some i → vs[j]? = some v → us[i]? = some (some v)
theorem SlK.tail {k : Nat} {ks : List Nat} {x : V} {xs : List V} {us : List (Option V)} (h : SlK (k :: ks) (x :: xs) us) : SlK ks xs us := fun j i v h1 h2 => h (j + 1) i v (by rw [List.getElem?_cons_succ]; exact h1) (by rw [List.getElem?_cons_succ]; exact h2)
theorem SlK.put {i : Nat} {v : V} : ∀ {ks : List Nat} {xs : List V} {us : List (Option V)}, SlK ks xs us → i ∉ ks → SlK ks xs (SlX.putS i v us) := fun {ks xs us} h hn j k x h1 h2 =>
  (SlX.putS_ne (fun z => hn (by rw [← z]; exact List.mem_of_getElem? h1))).mpr (h j k x h1 h2)
theorem slk_put {K : PySem.W.Frag} {F : Hp} {i : Nat} {d : D} {v : V} (rp : Rep K F d v) : ∀ (is : List Nat) (ds : List D) (vs : List V) (us : List (Option V)), is.Nodup → is.length = ds.length → RepL K F ds vs → SlK is vs us →
    ∃ ws, RepL K F (putSD i d is ds) ws ∧ SlK (putSN i is) ws (SlX.putS i v us)
  | [], [], vs, us, _, _, h, _ => ⟨[v], .one rp, fun j k x h1 h2 => by
      cases j with
      | zero => cases h1; cases h2; exact SlX.putS_get i v us
      | succ j => cases h1⟩
  | [], _ :: _, _, _, _, h, _, _ => by cases h
  | _ :: _, [], _, _, _, h, _, _ => by cases h
  | k :: ks, x :: xs, vs, us, hn, hl, h, hk => by
    obtain ⟨n1, n2⟩ := List.nodup_cons.mp hn
    obtain ⟨u, ws, rfl, h1, h2⟩ := h
    by_cases e : k = i
    · subst e
      refine ⟨v :: ws, ?_, ?_⟩
      · unfold putSD; rw [if_pos rfl]; exact ⟨v, ws, rfl, rp, h2⟩
      · unfold putSN; rw [if_pos rfl]
        intro j k' x' g1 g2
        cases j with
        | zero => cases g1; cases g2; exact SlX.putS_get k v us
        | succ j => exact (SlK.put hk.tail n1) j k' x' (by rw [List.getElem?_cons_succ] at g1; exact g1) (by rw [List.getElem?_cons_succ] at g2; exact g2)
    · obtain ⟨zs, q1, q2⟩ := slk_put rp ks xs ws us n2 (Nat.succ.inj hl) h2 hk.tail
      refine ⟨u :: zs, ?_, ?_⟩
      · unfold putSD; rw [if_neg e]; exact ⟨u, zs, rfl, h1, q1⟩
      · unfold putSN; rw [if_neg e]
        intro j k' x' g1 g2
        cases j with
        | zero => cases g1; cases g2; exact (SlX.putS_ne e).mpr (hk 0 k u rfl rfl)
        | succ j => exact q2 j k' x' (by rw [List.getElem?_cons_succ] at g1; exact g1) (by rw [List.getElem?_cons_succ] at g2; exact g2)
section
variable {X : Cy} {a b e o : Expr} {es : List Expr} {r : Env2} {G : GD} {pos p0 p apos lpos : Pos} {α β ρ τ σT : Type} {D0 : EndsD} {f : Str} {sts : List Stmt}
theorem slo_at {K : PySem.W.Frag} {F0 T F H : Hp} {σ : L2.St} (S : Sta K F0 T F G H r σ) {p C dx : Addr} {is : List Nat} {ds : List D} (h : G p = some (.slo C dx is ds)) (hx : G dx = some (.xdo p true)) :
    H dx = some (.xd []) ∧ ∃ us vs, SlX.Slt H p C dx us ∧ is.length = ds.length ∧ RepL K F ds vs ∧ SlK is vs us := by
  have k1 : H dx = some (.xd []) := S.bas.gh dx _ hx
  rcases (S.bas.gh p _ h : Own K F H p (.slo C dx is ds)) with ⟨rfl, rfl, h3⟩ | ⟨us, vs, h1, h2, h3, h4⟩
  · exact ⟨k1, [], [], .inl ⟨h3, rfl⟩, rfl, rfl, fun j i v z => by cases z⟩
  · exact ⟨k1, us, vs, .inr ⟨h1, k1⟩, h2, h3, h4⟩
theorem slk_get {K : PySem.W.Frag} {F : Hp} {i : Nat} {d : D} : ∀ {is : List Nat} {ds : List D} {vs : List V} {us : List (Option V)}, RepL K F ds vs → SlK is vs us → (is.zip ds).lookup i = some d → ∃ v, us[i]? = some (some v) ∧ Rep K F d v
  | [], _, _, _, _, _, h => by simp at h
  | _ :: _, [], _, _, _, _, h => by simp at h
  | k :: ks, x :: xs, vs, us, hr, hk, h => by
    obtain ⟨u, ws, rfl, h1, h2⟩ := hr
    rw [List.zip_cons_cons, List.lookup_cons] at h
    by_cases e : i = k
    · subst e
      rw [beq_self_eq_true] at h
      cases h
      exact ⟨u, hk 0 i u rfl rfl, h1⟩
    · rw [beq_false_of_ne e] at h
      exact slk_get h2 hk.tail h
/-- o.f, o's slots may change -/
theorem we_slo {C q : Addr} {i : Nat} (c : SlX.SCls X.K C) (t : SlX.Slot1 X.K C f q i) {Q : Res → Env2 → GD → Prop} (h : WE X e r G fun x r1 G1 => ∃ p dx is ds d, x = .sh (.adr p) ∧ G1 p = some (.slo C dx is ds) ∧ G1 dx = some (.xdo p true) ∧ (is.zip ds).lookup i = some d ∧ Q (.sh d) r1 G1)
    (hb : attributeBase e f X.env (eval e X.env) = eval e X.env := by rfl) : WE X (.Attribute e f pos) r G Q := fun F0 T F H σ lk S =>
  Run.of (SlX.pe_sl peR hb) ((h F0 T F H σ lk S).mono fun v H1 ⟨x, r1, G1, F1, e1, S1, k1, p, dx, is, ds, d, hx, hG, hD, hl, q⟩ => by
    subst hx
    obtain ⟨_, us, vs, k2, k3, k4, k5⟩ := slo_at S1 hG hD
    obtain ⟨w, m1, m2⟩ := slk_get k4 k5 hl
    exact ⟨p, C, dx, _, us, i, w, k1, k2, c, t, m1, .sh d, r1, G1, F1, e1, S1, m2, q⟩)
/-- o.f += e, whole numbers -/
def sSlAug (K : PySem.W.Frag) (ta tv : TE) (rd : V → V → Hp → VK → Prop) (f : Str) : TS := fun D σ H => ta σ H fun x H1 => ∃ a C dx p vs i v, x = .ref a ∧ SlX.Slt H1 a C dx vs ∧ SlX.SCls K C ∧ SlX.Slot1 K C f p i ∧ vs[i]? = some (some v) ∧
  tv σ H1 fun y H2 => rd v y H2 fun z H3 => ∃ vs', SlX.Slt H3 a C dx vs' ∧ D.nx σ (SlX.slH H3 a C dx (SlX.putS i z vs'))
theorem ps_slaug {X : Cx} {value : Expr} {tpos : Pos} {ta tv : TE} {op : Operator} {rd : V → V → Hp → VK → Prop} (ha : PE X o ta) (hv : PE X value tv) (hop : InOp X op rd) : PS X (.AugAssign (.Attribute o f tpos) op value pos) (sSlAug X.K ta tv rd f) := by
  refine ⟨fun pins s σ H D I h => ?_⟩
  refine wpAny_AugAssign_AttributeAny (thn (ha.run pins s σ H _ I h) fun ov s1 ⟨x, H1, I1, rx, a, C, dx, p, vs, i, v, ex, hs, c, t, l, q⟩ => ?_)
  subst ex
  obtain rfl : ov = Value.ref a := rx
  refine SlX.getslot_ok I1 hs c t l fun u s2 I2 ru => thn (hv.run pins s2 σ H1 _ I2 q) fun w3 s3 ⟨y, H2, I3, ry, q3⟩ => thn (hop pins s3 σ H2 v y u w3 _ I3 ru ry q3) fun w4 s4 ⟨z, H3, I4, rz, vs', ea', q4⟩ => ?_
  exact SlX.setslot_ok I4 ea' c t rz fun s5 I5 => ⟨σ, _, I5, q4⟩
theorem slh_upd {H2 : Hp} {p C dx : Addr} {us : List (Option V)} (hd : H2 dx = some (.xd [])) : SlX.slH H2 p C dx us = upd H2 p (SlX.SlO p C dx us) := by
  unfold SlX.slH
  congr 1
  funext b
  by_cases z : b = dx
  · rw [z, upd_same, hd]
  · rw [upd_ne z]
theorem ws_sloAdd {C q : Addr} {i : Nat} {tpos : Pos} (c : SlX.SCls X.K C) (t : SlX.Slot1 X.K C f q i) (h : WE X o r G fun x r1 G1 => ∃ p dx is ds n, x = .sh (.adr p) ∧ G1 p = some (.slo C dx is ds) ∧ G1 dx = some (.xdo p true) ∧ is.Nodup ∧ (is.zip ds).lookup i = some (.int n) ∧
      WE X e r1 G1 fun y r2 G2 => ∃ m, y = .sh (.int m) ∧ G2 p = some (.slo C dx is ds) ∧ G2 dx = some (.xdo p true) ∧ D0.nx r2 (updG G2 p (.slo C dx (putSN i is) (putSD i (.int (n + m)) is ds)))) :
    WS X (.AugAssign (.Attribute o f tpos) .Add e pos) r G D0 := fun F0 T F H σ lk S =>
  RunS.of (ps_slaug peR peR in_add) ((h F0 T F H σ lk S).mono fun v H1 ⟨x, r1, G1, F1, e1, S1, k1, p, dx, is, ds, n, hx, hG, hD, hn, hl, h2⟩ => by
    subst hx
    obtain ⟨_, us, vs, k2, k3, k4, k5⟩ := slo_at S1 hG hD
    obtain ⟨w, m1, m2⟩ := slk_get k4 k5 hl
    cases (show w = .int n from m2)
    refine ⟨p, C, dx, _, us, i, .int n, k1, k2, c, t, m1, (h2 F0 T F1 H1 σ lk S1).mono fun u H2 ⟨y, r2, G2, F2, e2, S2, k6, m, hy, g1, g2, qq⟩ => ?_⟩
    subst hy
    cases (show u = .int m from k6)
    obtain ⟨hd, us', vs', a2, a3, a4, a5⟩ := slo_at S2 g1 g2
    obtain ⟨ws, n1, n2⟩ := slk_put (i := i) (d := .int (n + m)) (v := .int (n + m)) rfl is ds vs' us' hn a3 a4 a5
    refine ⟨n, m, rfl, rfl, us', a2, r2, _, F2, ?_, qq⟩
    rw [slh_upd hd]
    exact S2.gput g1 (.inr ⟨_, ws, upd_same, putSN_len i _ is ds a3, n1, n2⟩))
end
abbrev slG (C x dx : Addr) (is : List Nat) (ys : List D) (G : GD) : GD := updG (updG G dx (.xdo x true)) x (.slo C dx is ys)
def spS (K : PySem.W.Frag) (C : Addr) (is : List Nat) (f : FSpI) : Sp := fun vs H Q E => ∃ (x dx : Addr) (us : List V) (F : Hp) (G : GD) (ds : List D) (post : List D → GD → Prop) (px : Exn → GD → Prop), vs = .ref x :: us ∧ H x = some (.ins C dx []) ∧ H dx = some (.own x) ∧ dx ≠ x ∧ F x = none ∧ F dx = none ∧ G x = none ∧ G dx = none ∧
  Ex F H ∧ (∀ a d, G a = some d → Own K F H a d) ∧ (∀ a o, G a = some o → F a = none) ∧ RepL K F ds us ∧ f ds G post px ∧
  (∀ ys G' H' F', post ys G' → Bas K F (fun a => if a = x ∨ a = dx then none else Tof G H a) F' (slG C x dx is ys G') H' → Q .non H') ∧
  ∀ xn cls d G' H' F', px xn G' → Bas K F (fun a => if a = x ∨ a = dx then none else Tof G H a) F' G' H' → ExOk K F' cls d xn → E cls d H'
structure MakeS (P : Program) (w : World) (K : PySem.W.Frag) (mg : Str → Option Value) (base : Heap) (x : Str) (C : Addr) (k : Nat) (ps : List Str) (is : List Nat) (f : FSpI) : Prop where
  ex : ∃ (g : Addr) (fd : FuncData), Mk K C g ∧ mg x = some (.ref C) ∧ FnOk P w K mg base (CX P w) k g fd ps (spS K C is f) ∧ Binds K fd ps []
section
variable {X : Cy} {a b e o : Expr} {es : List Expr} {r : Env2} {G : GD} {pos p0 p apos lpos : Pos} {α β ρ τ σT : Type} {D0 : EndsD} {f : Str} {sts : List Stmt}
theorem we_makeS {x : Str} {C : Addr} {k j : Nat} {ps : List Str} {is : List Nat} {f : FSpI} {Q : Res → Env2 → GD → Prop} (tk : X.Tk) (M : MakeS X.prog X.w X.K X.mg X.base x C k ps is f) (hr : Room j X.A) (hg : Gl X x) (h : WA X (e :: es) r G fun ds r1 G1 => ∀ q dx, G1 q = none → G1 dx = none → dx ≠ q → f ds G1 (fun ys G2 => Q (.sh (.adr q)) r1 (slG C q dx is ys G2)) (fun xn G2 => X.QX xn r1 G2)) (hj : k + 1 ≤ j := by omega)
    (hdb : (x == ("__debug__" : Str)) = false := by decide) (he : starEach (e :: es) X.env = (false, eval e X.env) :: starEach es X.env := by rfl) (hpl : (backTo pos (starEach es X.env)).any (·.1) = false := by rfl) : WE X (.Call (.Name x p0) (e :: es) [] pos) r G Q := fun F0 T F H σ lk S => by
  obtain ⟨g, fd, h1, h2, h3, h4⟩ := M.ex
  refine Run.of (pe_makeS h1 h3 (hr.mono hj) hg h2 h4 (fun σ => passAt tk σ) paR hdb he hpl) ((h F0 T F H σ lk S).mono fun vs H1 ⟨ds, r1, G1, F1, e1, S1, k1, q1⟩ => ?_)
  intro ad dx ha hd hne
  obtain ⟨f1, f2, f3⟩ := S1.bas.freshF ha
  obtain ⟨g1, g2, g3⟩ := S1.bas.freshF hd
  have ex1 : Ex H1 (upd (upd H1 dx (.own ad)) ad (.ins C dx [])) := fun q u hq => by
    rw [upd_ne (ne_of_none hq ha), upd_ne (ne_of_none hq hd)]; exact hq
  refine ⟨ad, dx, vs, F1, G1, ds, _, _, rfl, upd_same, by rw [upd_ne hne, upd_same], hne, f1, g1, f2, g2, S1.bas.fh.trans ex1, S1.bas.gmono (Ex.refl _) fun a o _ h => ex1 a o h, S1.bas.fg, k1, q1 ad dx f2 g2 hne, fun ys G' H' F' hp B => ⟨rfl, ?_⟩, fun xn cls d G' H' F' hp B ex => ?_⟩
  · have B' := make_base ha hd ex1 B
    exact ⟨.sh (.adr ad), r1, _, F', e1.trans B'.ff, S1.after B', rfl, hp⟩
  · have B' := make_base ha hd ex1 B
    exact ⟨r1, G', F', xn, lk.sta (S1.after B'), ex, hp⟩
end
theorem slot_frame {K : PySem.W.Frag} {F H F' H' H2 : Hp} {G G' : GD} {x dx C : Addr} {vs : List (Option V)} {is : List Nat} {ys : List D} {ws : List V} (B : Bas K F (Tof G H) F' G' H') (fx : F x = none) (fd : F dx = none) (gx : G x = none) (gd : G dx = none) (hx : H x = some (.ins C dx [])) (hd : H dx = some (.own x)) (hne : dx ≠ x) (e2 : H2 = SlX.slH H' x C dx vs)
    (hl : is.length = ys.length) (hr : RepL K F' ys ws) (hk : SlK is ws vs) : Bas K F (fun a => if a = x ∨ a = dx then none else Tof G H a) F' (slG C x dx is ys G') H2 := by
  have tx : Tof G H x = some (.ins C dx []) := by rw [Tof_none gx]; exact hx
  have td : Tof G H dx = some (.own x) := by rw [Tof_none gd]; exact hd
  have fx' : F' x = none := by
    cases e : F' x with
    | none => rfl
    | some u =>
      rcases B.ft x u e with z | z
      · rw [fx] at z; cases z
      · rw [tx] at z; cases z
  have fd' : F' dx = none := by
    cases e : F' dx with
    | none => rfl
    | some u =>
      rcases B.ft dx u e with z | z
      · rw [fd] at z; cases z
      · rw [td] at z; cases z
  have h2 : ∀ a, a ≠ x → a ≠ dx → H2 a = H' a := fun a h1 h2 => by rw [e2]; exact SlX.slH_ne h1 h2
  have hx2 : H2 x = some (SlX.SlO x C dx vs) := by rw [e2]; exact upd_same
  have hd2 : H2 dx = some (.xd []) := by rw [e2]; unfold SlX.slH; rw [upd_ne hne, upd_same]
  refine ⟨B.ff, fun a o h => ?_, fun a o h => ?_, fun a d h => ?_, fun a o h => ?_, fun a o h => ?_, fun a o h => ?_⟩
  · rcases B.ft a o h with z | z
    · exact .inl z
    · right; show (if _ then _ else _) = _; split
      · rfl
      · exact z
  · rw [h2 a (ne_of_none h fx') (ne_of_none h fd')]; exact B.fh a o h
  · by_cases h1 : a = x
    · subst h1; rw [show slG C a dx is ys G' a = some (.slo C dx is ys) from updG_same] at h; cases h
      exact .inr ⟨vs, ws, hx2, hl, hr, hk⟩
    · by_cases h3 : a = dx
      · subst h3; rw [show slG C x a is ys G' a = some (.xdo x true) from (updG_ne h1).trans updG_same] at h; cases h
        exact hd2
      · rw [show slG C x dx is ys G' a = G' a from (updG_ne h1).trans (updG_ne h3)] at h
        exact (B.gh a d h).mono (Ex.refl _) fun o q => by rw [h2 a h1 h3]; exact q
  · by_cases h1 : a = x
    · rw [h1]; exact fx'
    · by_cases h3 : a = dx
      · rw [h3]; exact fd'
      · rw [show slG C x dx is ys G' a = G' a from (updG_ne h1).trans (updG_ne h3)] at h; exact B.fg a o h
  · show (if _ then _ else _) = _
    split
    · rfl
    · rename_i hh
      rw [show slG C x dx is ys G' a = G' a from (updG_ne fun z => hh (.inl z)).trans (updG_ne fun z => hh (.inr z))] at h
      exact B.gt a o h
  · have h' : (if a = x ∨ a = dx then none else Tof G H a) = some o := h
    by_cases h1 : a = x ∨ a = dx
    · rw [if_pos h1] at h'; cases h'
    · rw [if_neg h1] at h'
      rw [h2 a (fun z => h1 (.inl z)) (fun z => h1 (.inr z))]; exact B.tk a o h'
section
variable {X : Cy} {a b e o : Expr} {es : List Expr} {r : Env2} {G : GD} {pos p0 p apos lpos : Pos} {α β ρ τ σT A R : Type} {D0 : EndsD} {f : Str} {sts : List Stmt} {cx : Nat → Addr}
theorem we_methS0 {m : Str} {C : Addr} {k j : Nat} {ps : List Str} {sp : FSp} {pl : Sem Bool} {Q : Res → Env2 → GD → Prop} (tk : X.Tk) (c : SlX.SCls X.K C) (p : MethD X.prog X.w X.K X.mg X.base C m k ps sp) (hr : Room j X.A) (h : WE X o r G fun x r1 G1 => ∃ q dx is ds, x = .sh (.adr q) ∧ G1 q = some (.slo C dx is ds) ∧ G1 dx = some (.xdo q true) ∧ sp [.adr q] G1 (fun z G2 => Q z r1 G2) (fun x G2 => X.QX x r1 G2)) (hj : k ≤ j := by omega)
    (ht : eval (.Call (.Attribute o m apos) [] [] pos) X.env = (do
      let ov ← eval o X.env
      standAt apos.atName
      let (f, first) ← holding [ov] (getMethod ov m pl)
      callWith pos f first (backTo pos (starEach [] X.env)) (backToKw pos (keywordEach [] X.env))) := by rfl) : WE X (.Call (.Attribute o m apos) [] [] pos) r G Q := fun F0 T F H σ lk S => by
  obtain ⟨g, fd, h1, h2, h3⟩ := p.ex
  refine Run.of (pe_methSl0S (pl := pl) peR c h1 (fnr h2 h3) (hr.mono hj) (fun σ => passAt tk σ) ht) ((h F0 T F H σ lk S).mono fun v H1 ⟨x, r1, G1, F1, e1, S1, k1, q, dx, is, ds, hx, hG, hD, q2⟩ => ?_)
  subst hx
  obtain ⟨_, us, vs, m2, _⟩ := slo_at S1 hG hD
  exact ⟨q, dx, us, k1, m2, spD_of lk S1 e1 (.one k1) q2⟩
theorem we_methS {m : Str} {C : Addr} {k j : Nat} {ps : List Str} {sp : FSp} {pl : Sem Bool} {Q : Res → Env2 → GD → Prop} (tk : X.Tk) (c : SlX.SCls X.K C) (p : MethD X.prog X.w X.K X.mg X.base C m k ps sp) (hr : Room j X.A) (h : WE X o r G fun x r1 G1 => ∃ q dx is ds, x = .sh (.adr q) ∧ G1 q = some (.slo C dx is ds) ∧ G1 dx = some (.xdo q true) ∧ WA X (e :: es) r1 G1 fun as r2 G2 => sp (.adr q :: as) G2 (fun z G3 => Q z r2 G3) (fun x G3 => X.QX x r2 G3)) (hj : k ≤ j := by omega)
    (hst : starEach (e :: es) X.env = (false, eval e X.env) :: starEach es X.env := by rfl) (hpl : (backTo pos (starEach es X.env)).any (·.1) = false := by rfl)
    (ht : eval (.Call (.Attribute o m apos) (e :: es) [] pos) X.env = (do
      let ov ← eval o X.env
      standAt apos.atName
      let (f, first) ← holding [ov] (getMethod ov m pl)
      callWith pos f first (backTo pos (starEach (e :: es) X.env)) (backToKw pos (keywordEach [] X.env))) := by rfl) : WE X (.Call (.Attribute o m apos) (e :: es) [] pos) r G Q := fun F0 T F H σ lk S => by
  obtain ⟨g, fd, h1, h2, h3⟩ := p.ex
  refine Run.of (pe_methSlS (pl := pl) peR c h1 (fnr h2 h3) (hr.mono hj) (fun σ => passAt tk σ) paR hst hpl ht) ((h F0 T F H σ lk S).mono fun v H1 ⟨x, r1, G1, F1, e1, S1, k1, q, dx, is, ds, hx, hG, hD, h2⟩ => ?_)
  subst hx
  obtain ⟨_, us, vs, m2, _⟩ := slo_at S1 hG hD
  refine ⟨q, dx, us, k1, m2, (h2 F0 T F1 H1 σ lk S1).mono fun ws H2 ⟨as, r2, G2, F2, e2, S2, k2, q3⟩ => ?_⟩
  exact spD_of (ds := .adr q :: as) lk S2 (e1.trans e2) ⟨_, _, rfl, k1, k2⟩ q3
def slA (C o : Addr) (is : List Nat) (ds : List D) : As := fun fp G => ∃ dx, fp = [o, dx] ∧ dx ≠ o ∧ is.Nodup ∧ G o = some (.slo C dx is ds) ∧ G dx = some (.xdo o true)
theorem slA_put {C o : Addr} {is : List Nat} {ds ds' : List D} {fp : List Addr} {G : GD} {is' : List Nat} (h : slA C o is ds fp G) (hn : is'.Nodup) : ∃ dx, G o = some (.slo C dx is ds) ∧ G dx = some (.xdo o true) ∧ is.Nodup ∧ slA C o is' ds' fp (updG G o (.slo C dx is' ds')) ∧ Frm fp G fp (updG G o (.slo C dx is' ds')) := by
  obtain ⟨dx, rfl, h1, h2, h3, h4⟩ := h
  exact ⟨dx, h3, h4, h2, ⟨dx, rfl, h1, hn, updG_same, by rw [updG_ne h1]; exact h4⟩, fun b hb _ => updG_ne fun z => hb (by rw [z]; exact List.mem_cons_self), fun b hb => .inl hb⟩
/-- o.f -/
theorem we_slA {C q : Addr} {i : Nat} {is : List Nat} {ds : List D} {d : D} (c : SlX.SCls X.K C) (t : SlX.Slot1 X.K C f q i) (hl : (is.zip ds).lookup i = some d) {Q : Res → Env2 → GD → Prop} (h : WE X e r G fun x r1 G1 => ∃ p fp, x = .sh (.adr p) ∧ slA C p is ds fp G1 ∧ Q (.sh d) r1 G1)
    (hb : attributeBase e f X.env (eval e X.env) = eval e X.env := by rfl) : WE X (.Attribute e f pos) r G Q :=
  we_slo c t (h.mono fun x r1 G1 ⟨p, fp, hx, ⟨dx, _, _, _, h3, h4⟩, q⟩ => ⟨p, dx, is, ds, d, hx, h3, h4, hl, q⟩) hb
/-- o.f += e -/
theorem ws_slAdd {C q : Addr} {i : Nat} {is : List Nat} {ds : List D} {n : Int} {tpos : Pos} (c : SlX.SCls X.K C) (t : SlX.Slot1 X.K C f q i) (hn : (putSN i is).Nodup) (hl : (is.zip ds).lookup i = some (.int n)) (h : WE X o r G fun x r1 G1 => ∃ p fp, x = .sh (.adr p) ∧ slA C p is ds fp G1 ∧
      WE X e r1 G1 fun y r2 G2 => ∃ m, y = .sh (.int m) ∧ G2 = G1 ∧ ∀ G', slA C p (putSN i is) (putSD i (.int (n + m)) is ds) fp G' → Frm fp G1 fp G' → D0.nx r2 G') :
    WS X (.AugAssign (.Attribute o f tpos) .Add e pos) r G D0 :=
  ws_sloAdd c t (h.mono fun x r1 G1 ⟨p, fp, hx, hP, k⟩ => by
    obtain ⟨dx, g1, g2, g3, _⟩ := slA_put (is' := is) (ds' := ds) hP (by obtain ⟨_, _, _, z, _⟩ := hP; exact z)
    refine ⟨p, dx, is, ds, n, hx, g1, g2, g3, hl, k.mono fun y r2 G2 ⟨m, hy, hG, q⟩ => ?_⟩
    subst hG
    obtain ⟨dx', g1', _, _, g4, g5⟩ := slA_put (ds' := putSD i (.int (n + m)) is ds) hP hn
    cases g1.symm.trans g1'
    exact ⟨m, hy, g1, g2, q _ g4 g5⟩)
end
/-- of a method: the object's state is threaded; where it raises, the state is any -/
def FMS (cx : Nat → Addr) (C : Addr) (is : List Nat) {σT A R : Type} (fl : σT → List D) (en : A → List D) (er : R → Res) (f : σT → A → Out (R × σT)) : FSp := fun ds G post px => ∃ (s : σT) (a : A) (o : Addr) (fp : List Addr), ds = .adr o :: en a ∧ slA C o is (fl s) fp G ∧
  (f s a).sat (fun v => ∀ fp' G', slA C o is (fl v.2) fp' G' → Frm fp G fp' G' → post (er v.1) G') (fun m => ∀ s' fp' G', slA C o is (fl s') fp' G' → Frm fp G fp' G' → px (xnOf cx m) G')
/-- of an __init__ that raises nothing -/
def FIS {A : Type} (en fl : A → List D) : FSpI := fun ds G post _ => ∃ a : A, ds = en a ∧ post (fl a) G
section
variable {X : Cy} {a b e o : Expr} {es : List Expr} {r : Env2} {G : GD} {pos p0 p apos lpos : Pos} {α β ρ τ σT A R : Type} {D0 : EndsD} {f : Str} {sts : List Stmt} {cx : Nat → Addr}
theorem we_methMS {m : Str} {C : Addr} {k j : Nat} {ps : List Str} {pl : Sem Bool} {is : List Nat} {fl : σT → List D} {en : A → List D} {er : R → Res} {f : σT → A → Out (R × σT)} {Q : Res → Env2 → GD → Prop} (tk : X.Tk) (c : SlX.SCls X.K C) (p : MethD X.prog X.w X.K X.mg X.base C m k ps (FMS cx C is fl en er f)) (hr : Room j X.A)
    (h : WE X o r G fun x r1 G1 => ∃ s q fp, x = .sh (.adr q) ∧ slA C q is (fl s) fp G1 ∧ WA X (e :: es) r1 G1 fun as r2 G2 => ∃ a fp2, as = en a ∧ slA C q is (fl s) fp2 G2 ∧
      (f s a).sat (fun v => ∀ fp' G', slA C q is (fl v.2) fp' G' → Frm fp2 G2 fp' G' → Q (er v.1) r2 G') (fun xm => ∀ s' fp' G', slA C q is (fl s') fp' G' → Frm fp2 G2 fp' G' → X.QX (xnOf cx xm) r2 G')) (hj : k ≤ j := by omega)
    (hst : starEach (e :: es) X.env = (false, eval e X.env) :: starEach es X.env := by rfl) (hpl : (backTo pos (starEach es X.env)).any (·.1) = false := by rfl)
    (ht : eval (.Call (.Attribute o m apos) (e :: es) [] pos) X.env = (do
      let ov ← eval o X.env
      standAt apos.atName
      let (f, first) ← holding [ov] (getMethod ov m pl)
      callWith pos f first (backTo pos (starEach (e :: es) X.env)) (backToKw pos (keywordEach [] X.env))) := by rfl) : WE X (.Call (.Attribute o m apos) (e :: es) [] pos) r G Q :=
  we_methS tk c p hr (h.mono fun x r1 G1 ⟨s, q, fp, hx, hP, h2⟩ => by
    have hP' := hP
    obtain ⟨dx, _, _, _, g1, g2⟩ := hP'
    exact ⟨q, dx, is, fl s, hx, g1, g2, WA.mono h2 fun as r2 G2 ⟨a, fp2, ha, hP2, hs⟩ => by subst ha; exact ⟨s, a, q, fp2, rfl, hP2, hs⟩⟩) hj hst hpl ht
theorem we_methMS0 {m : Str} {C : Addr} {k j : Nat} {ps : List Str} {pl : Sem Bool} {is : List Nat} {fl : σT → List D} {er : R → Res} {f : σT → Unit → Out (R × σT)} {Q : Res → Env2 → GD → Prop} (tk : X.Tk) (c : SlX.SCls X.K C) (p : MethD X.prog X.w X.K X.mg X.base C m k ps (FMS cx C is fl (fun _ => []) er f)) (hr : Room j X.A)
    (h : WE X o r G fun x r1 G1 => ∃ s q fp, x = .sh (.adr q) ∧ slA C q is (fl s) fp G1 ∧ (f s ()).sat (fun v => ∀ fp' G', slA C q is (fl v.2) fp' G' → Frm fp G1 fp' G' → Q (er v.1) r1 G') (fun xm => ∀ s' fp' G', slA C q is (fl s') fp' G' → Frm fp G1 fp' G' → X.QX (xnOf cx xm) r1 G')) (hj : k ≤ j := by omega)
    (ht : eval (.Call (.Attribute o m apos) [] [] pos) X.env = (do
      let ov ← eval o X.env
      standAt apos.atName
      let (f, first) ← holding [ov] (getMethod ov m pl)
      callWith pos f first (backTo pos (starEach [] X.env)) (backToKw pos (keywordEach [] X.env))) := by rfl) : WE X (.Call (.Attribute o m apos) [] [] pos) r G Q :=
  we_methS0 tk c p hr (h.mono fun x r1 G1 ⟨s, q, fp, hx, hP, hs⟩ => by
    have hP' := hP
    obtain ⟨dx, _, _, _, g1, g2⟩ := hP'
    exact ⟨q, dx, is, fl s, hx, g1, g2, s, (), q, fp, rfl, hP, hs⟩) hj ht
/-- C(..) -/
theorem we_makeSA {x : Str} {C : Addr} {k j : Nat} {ps : List Str} {is : List Nat} {en fl : A → List D} {Q : Res → Env2 → GD → Prop} (tk : X.Tk) (M : MakeS X.prog X.w X.K X.mg X.base x C k ps is (FIS en fl)) (hr : Room j X.A) (hg : Gl X x) (hn : is.Nodup)
    (h : WA X (e :: es) r G fun ds r1 G1 => ∃ a, ds = en a ∧ ∀ q fp G', slA C q is (fl a) fp G' → Frm [] G1 fp G' → Q (.sh (.adr q)) r1 G') (hj : k + 1 ≤ j := by omega)
    (hdb : (x == ("__debug__" : Str)) = false := by decide) (he : starEach (e :: es) X.env = (false, eval e X.env) :: starEach es X.env := by rfl) (hpl : (backTo pos (starEach es X.env)).any (·.1) = false := by rfl) : WE X (.Call (.Name x p0) (e :: es) [] pos) r G Q :=
  we_makeS tk M hr hg (WA.mono h fun ds r1 G1 ⟨a, ha, q⟩ z dx h1 h2 h3 => ⟨a, ha, q z [z, dx] _ ⟨dx, rfl, h3, hn, updG_same, (updG_ne h3).trans updG_same⟩ ⟨fun b _ hb => by
      have n1 : b ≠ z := fun w => hb (by rw [w]; exact h1)
      have n2 : b ≠ dx := fun w => hb (by rw [w]; exact h2)
      exact (updG_ne n1).trans (updG_ne n2), fun b hb => by
      simp only [List.mem_cons, List.not_mem_nil, or_false] at hb
      rcases hb with rfl | rfl
      · exact .inr h1
      · exact .inr h2⟩⟩) hj hdb he hpl
end
section
variable {P : Program} {w : World} {K : PySem.W.Frag} {mg : Str → Option Value} {base : Heap}
/-- an __init__ of two stores: a name's, a number -/
theorem init2s_ok {x qual : Str} {st : Stmt} {g : Addr} {fd : FuncData} {N ps : List Str} {k : Nat} {C q0 q1 : Addr} {f0 f1 : Str} {A : Type} {en : A → List D} {v : A → D} {n : Int} (Fo : Fun K x qual st g fd) (S : FnScope N ps (defScope st)) (c : SlX.SCls K C) (t0 : SlX.Slot1 K C f0 q0 0) (t1 : SlX.Slot1 K C f1 q1 1)
    (len : ∀ a, (en a).length + 1 = ps.length) (s0 s1 : Stmt) (i0 : Nat) (hb : defBody st = [s0, s1])
    (hv2 : ∀ a o, (startD N (.adr o :: en a))[0]? = some (Sl.sh (.adr o)) ∧ (startD N (.adr o :: en a))[i0]? = some (Sl.sh (v a)))
    (hbody : ∀ (cdv : Value) (A : Around) (outer : List Env) (s : Shared) (H : Hp) (E : XK) (F T : Hp) (px : Exn → GD → Prop),
      PS (cyOf P w K mg base N qual (defScope st) g cdv A outer s H E F T px).toCx s0 (SlX.sSl K (tVar 0) (tVar i0) f0) ∧ PS (cyOf P w K mg base N qual (defScope st) g cdv A outer s H E F T px).toCx s1 (SlX.sSl K (tVar 0) (tC (.int n)) f1)) :
    FnOk P w K mg base (L2.CX P w) (k + 1) g fd ps (spS K C [0, 1] (FIS en fun a => [v a, .int n])) := by
  refine Fo.okX S (fun vs H Q E h => ?_) (fun cdv A outer s H vs Q E hr h => ?_)
  · obtain ⟨a, dx, us, F, G, ds, post, px, rfl, _, _, _, _, _, _, _, _, _, _, rp, ⟨z, rfl, _⟩, _⟩ := h
    rw [List.length_cons, rp.length]; exact len z
  · obtain ⟨a, dx, us, F, G, ds, post, px, rfl, hx, hd, hne, fx, fdx, gx, gdx, e1, e2, e3, rp, ⟨z, rfl, hpost⟩, hq, hxn⟩ := h
    refine ⟨RunB _ (defBody st), pbR, ?_⟩
    obtain ⟨p0, p1⟩ := hbody cdv A outer s H E F (Tof G H) px
    have hl : (D.adr a :: en z).length ≤ N.length := by
      rw [List.length_cons, len z]
      have := congrArg List.length S.pre
      rw [List.length_take] at this
      omega
    rw [hb]
    have S0 := sta_start (N := N) (ds := .adr a :: en z) (vs := .ref a :: us) hl e1 e2 e3 ⟨_, _, rfl, rfl, rp⟩
    obtain ⟨h0, h1⟩ := hv2 z a
    obtain ⟨va, a1, a2⟩ := S0.sl 0 _ h0
    obtain ⟨v0, b1, b2⟩ := S0.sl i0 _ h1
    cases (show va = .ref a from a2)
    have hs0 : SlX.Slt H a C dx [] := .inl ⟨hx, rfl⟩
    have two : SlX.putS 1 (.int n) (SlX.putS 0 v0 []) = [some v0, some (.int n)] := rfl
    refine RunB.of (X := (cyOf P w K mg base N qual (defScope st) g cdv A outer s H E F (Tof G H) px).toCx) (pss_cons p0 (pss_cons p1 pss_nil)) ⟨v0, b1, .ref a, a1, a, C, dx, q0, [], 0, rfl, hs0, c, t0, .ref a, a1, a, C, dx, q1, _, 1, rfl, SlX.slH_slt hne, c, t1, ?_⟩
    rw [SlX.slH_twice hne, two]
    refine hq _ G _ F hpost (slot_frame S0.bas fx fdx gx gdx hx hd hne rfl rfl (show RepL K F [v z, .int n] [v0, .int n] from ⟨v0, [.int n], rfl, b2, .one rfl⟩) fun j i y g1 g2 => ?_)
    match j with
    | 0 => cases g1; cases g2; rfl
    | 1 => cases g1; cases g2; rfl
    | j + 2 => cases g1
end
open Out (Rt)
theorem Sta.drop {K : PySem.W.Frag} {F0 T F H : Hp} {G G' : GD} {r : Env2} {σ : L2.St} (S : Sta K F0 T F G' H r σ) (h : ∀ a d, G a = some d → G' a = some d) : Sta K F0 T F G H r σ :=
  ⟨S.bas.drop h, S.len, fun i s e => by
    have k := S.sl i s e
    cases s with
    | no => exact k
    | sh d => exact k
    | own d => obtain ⟨p, k1, k2, k3, k4, k5⟩ := k; exact ⟨p, k1, k2, k3, none_drop h k4, k5⟩, S.ap⟩
section
variable {P : Program} {w : World} {K : PySem.W.Frag} {mg : Str → Option Value} {base : Heap} {N : List Str} {qual : Str} {sc : Scope} {g : Addr} {cdv : Value} {A : Around} {outer : List Env} {s : Shared} {H : Hp} {E : XK} {F T : Hp} {px : Exn → GD → Prop}
theorem cy_dropX (G0 : GD) (tk : (cyOf P w K mg base N qual sc g cdv A outer s H E F T px).Tk) : (cyOf P w K mg base N qual sc g cdv A outer s H E F T fun x G' => (∀ a d, G0 a = some d → G' a = some d) ∧ px x G0).Tk :=
  L2.Takes.imp (X := (cyOf P w K mg base N qual sc g cdv A outer s H E F T px).toCx) tk fun _ _ _ _ ⟨r, G', F', x, S', ex, q⟩ => ⟨r, G0, F', x, Sta.drop S' q.1, ex, q.2⟩
theorem wb_dropX (G0 : GD) {sts : List Stmt} {r : Env2} {G : GD} {D0 : EndsD} (tk : (cyOf P w K mg base N qual sc g cdv A outer s H E F T px).Tk)
    (h : (cyOf P w K mg base N qual sc g cdv A outer s H E F T fun x G' => (∀ a d, G0 a = some d → G' a = some d) ∧ px x G0).Tk → WB (cyOf P w K mg base N qual sc g cdv A outer s H E F T fun x G' => (∀ a d, G0 a = some d → G' a = some d) ∧ px x G0) sts r G D0) : WB (cyOf P w K mg base N qual sc g cdv A outer s H E F T px) sts r G D0 :=
  fun F0 T F' H' σ lk S => h (cy_dropX G0 tk) F0 T F' H' σ ⟨lk.t, lk.f, lk.ft⟩ S
end
open Out (Rt)
theorem chrs_get {x : S} {j : Nat} {c : Chr} (h : (chrs x)[j]? = some c) : x.1.cps.toList[j]? = some c.1 := by
  unfold chrs at h
  rw [List.getElem?_map] at h
  cases e : x.1.cps.toList.attach[j]? with
  | none => rw [e] at h; cases h
  | some y =>
    rw [e] at h
    cases h
    have := congrArg (Option.map Subtype.val) e
    rw [← List.getElem?_map, List.attach_map_subtype_val] at this
    exact this
theorem chrs_at {x : S} {i : Int} {c : Chr} (h : pix (chrs x) i = some c) : atI x.1.cps.toList i = some c.1 := by
  unfold pix at h
  unfold atI
  rw [chrs_len] at h
  rw [show x.1.cps.toList.length = x.1.cps.size from Array.length_toList]
  cases e : ixN x.1.cps.size i with
  | none => rw [e] at h; cases h
  | some j => rw [e] at h; exact chrs_get h
section
variable {X : Cy} {a b e o : Expr} {es : List Expr} {r : Env2} {G : GD} {pos p0 p apos lpos : Pos}
theorem ixw_str {x : S} {i : Int} {c : Chr} {Q : Res → Prop} (hl : x.1.length ≤ LIM) (h : pix (chrs x) i = some c) (q : Q (.sh (eZ (oneS c)))) : IxW X (eZ x) (.int i) Q := fun F0 T F G H r σ va vb S h1 h2 => by
  cases h2.int
  exact ⟨_, ix_str, x.1, i, c.1, h1.str, rfl, lim_ok hl, chrs_at h, .sh (eZ (oneS c)), F, Ex.refl _, S, rfl, q⟩
end
open Out (Rt)
section
variable {X : Cy} {a b e o : Expr} {es : List Expr} {r : Env2} {G : GD} {pos p0 p apos lpos cpos : Pos}
theorem c_divmod {i j : Int} {Q : Res → Prop} (h0 : 0 < j ∧ j < 1073741824) (q : Q (.sh (.tup [.int (i / j), .int (i % j)]))) : CallW2 X (.builtin "divmod") (.int i) (.int j) Q := fun F0 T F G H r σ va vb S h1 h2 => by
  cases h1.int
  cases h2.int
  exact ⟨_, call_divmod, i, j, rfl, h0, fun l hl => new_tup (vs := [.int (i / j), .int (i % j)]) S (show RepL X.K F [.int (i / j), .int (i % j)] _ from ⟨_, _, rfl, rfl, .one rfl⟩) hl q⟩
def zfind (z : S) (c : Chr) : Option Nat := (Builtin.Str.occurrences z.1 ⟨#[c.1]⟩ 0 z.1.length 1).head?
theorem we_sindex {Q : Res → Env2 → GD → Prop} (h : WE X o r G fun x r1 G1 => ∃ z : S, x = .sh (eZ z) ∧ WE X e r1 G1 fun y r2 G2 => ∃ (c : Chr) (j : Nat), y = .sh (eC c) ∧ zfind z c = some j ∧ Q (.sh (.int (j : Nat))) r2 G2)
    (hs : starEach [e] X.env = [(false, eval e X.env)] := by rfl) (hbase : attributeBase o "index" X.env (eval o X.env) = eval o X.env := by rfl) (hline : (apos.endLine == cpos.line) = true := by rfl) : WE X (.Call (.Attribute o "index" apos) [e] [] cpos) r G Q := fun F0 T F H σ lk S =>
  Run.of (pe_m1 PySem.F.slot_str_index PySem.F.type_str_index mt_sindex peR peR hs hbase hline) ((h F0 T F H σ lk S).mono fun v H1 ⟨x, r1, G1, F1, e1, S1, k1, z, hx, h1⟩ => by
    subst hx
    cases (show v = .str z.1 from k1)
    refine ⟨⟨z.1, rfl⟩, (h1 F0 T F1 H1 σ lk S1).mono fun w H2 ⟨y, r2, G2, F2, e2, S2, k2, c, j, hy, hj, q2⟩ => ?_⟩
    subst hy
    cases (show w = .str ⟨#[c.1]⟩ from k2)
    unfold zfind at hj
    obtain ⟨rest, hr⟩ : ∃ rest, Builtin.Str.occurrences z.1 ⟨#[c.1]⟩ 0 z.1.length 1 = j :: rest := by
      cases e : Builtin.Str.occurrences z.1 ⟨#[c.1]⟩ 0 z.1.length 1 with
      | nil => rw [e] at hj; cases hj
      | cons a l => rw [e] at hj; cases hj; exact ⟨l, rfl⟩
    exact ⟨z.1, ⟨#[c.1]⟩, j, rest, rfl, rfl, hr, .sh (.int (j : Nat)), r2, G2, F2, e1.trans e2, S2, rfl, q2⟩)
end
theorem list_extend_tup (l : Addr) (items : Array Value) (n : Nat) (b : Addr) (items2 : Array Value) (n2 : Nat) (dd : Option Addr) (sl : Array (Option Value)) (hs0 : ¬(!items.isEmpty && Builtin.List.listTooLong (items.size + items2.size)) = true) (hs1 : items.size ≤ sizeLine) (hs2 : items.size + items2.size ≤ sizeLine + 1) :
    Meets (Builtin.«list.extend» ⟨[.ref l, .ref b], []⟩) (fun _ R s => s.heap.get? l = some { cls := .type "list", dict := none, data := .seq items n, slots := #[] } ∧ s.heap.get? b = some { cls := .type "tuple", dict := dd, data := .seq items2 n2, slots := sl } ∧ R (.ok (.ret Value.none)) { s with heap := s.heap.update l (Obj.mapSeq fun x => x ++ items2), toks := s.toks }) :=
  .of_wp fun prog w A R s h => by
    obtain ⟨hp, g, d, tk, os⟩ := s; obtain ⟨hl, hb, h⟩ := h; have f1 := AutoSeq1.idx_int; have f2 := AutoSeq1.sub_tuple_tuple; have f3 := AutoSeq1.sub_list_list; have f4 := AutoSeq1.sub_tuple_list; have f5 := AutoSeq1.sub_list_tuple;
    have hz' : (items ++ items2).size ≤ sizeLine + 1 := by rw [Array.size_append]; exact hs2
    wp_walk using (wpAny_updateSeq hl rfl (hz := hs1) (_hz' := hz')), AutoSeq1.wpAny_loadPart' hl, AutoSeq1.wpAny_loadPart' hb; exact ⟨_, rfl, h⟩
def rExtendU (K : PySem.W.Frag) : V → List V → Hp → VK → Prop := fun x vs H Q => ∃ l b xs zs, x = .ref l ∧ vs = [.ref b] ∧ H l = some (.lst xs) ∧ SqT K H b zs ∧ xs.length + zs.length ≤ sizeLine ∧ Q .non (upd H l (.lst (xs ++ zs)))
theorem mt_extendU {X : Cx} : MtR X "list.extend" (rExtendU X.K) := by
  intro pins s σ H x vs v us Q I rx rv h
  obtain ⟨l, b, xs, zs, rfl, rfl, hH, hB, hz, q⟩ := h
  cases rx
  obtain ⟨u, rfl, ru⟩ := rv.one
  cases ru
  obtain ⟨z, its, n, r, hl, e⟩ := I.lstM hH
  obtain ⟨its2, r2, ⟨o, e2, hc, n2, hd⟩, hl3⟩ := I.tuple hB
  obtain ⟨cls, dd, data, sl⟩ := o
  cases hc
  cases hd
  have hl2 := r2.length
  have hsz : its.toArray.size + its2.toArray.size ≤ sizeLine := by rw [List.size_toArray, List.size_toArray]; omega
  have hlong : ¬ (!its.toArray.isEmpty && Builtin.List.listTooLong (its.toArray.size + its2.toArray.size)) = true := by
    rw [notLongL hsz, Bool.and_false]
    exact Bool.false_ne_true
  refine call_meets F.slot_list_extend ⟨_, e, rfl⟩ F.entry_list_extend (F.args_list_extend_2 _ _)
    (list_extend_tup l its.toArray n b its2.toArray n2 dd sl hlong (by rw [List.size_toArray]; omega) (by omega)) ⟨e, e2, ?_⟩
  refine ⟨.non, _, I.lset (its' := its ++ its2) hH e (by simp) (r.append r2) ?_, rfl, q⟩
  rw [List.length_append]
  omega
section
variable {X : Cy} {a b e o : Expr} {es : List Expr} {r : Env2} {G : GD} {pos p0 p apos lpos cpos : Pos} {α : Type}
theorem mw_extendU {ds es : List D} {Kt : D → List D → Prop} (hl : ds.length + es.length ≤ LIM) (k : Kt .non (ds ++ es)) : MutW X "list.extend" ds [.tup es] Kt := fun F H p vs us hp hf ex h1 h2 => by
  obtain ⟨v, u', rfl, ⟨q, ws, rfl, h5, h6⟩, h4⟩ := h2
  cases (show u' = [] from h4)
  exact ⟨_, mt_extendU, p, q, vs, ws, rfl, rfl, hp, ex.sqT h5, by rw [h1.length, h6.length]; exact lim_ok hl, vs ++ ws, .non, ds ++ es, rfl, rfl, h1.append h6, k⟩
theorem we_extendU {f : α → D} {Q : Res → Env2 → GD → Prop}
    (h : WE X o r G fun x r1 G1 => ∃ i xs0, x = .pk i ∧ r1[i]? = some (.own (.lst (List.map f xs0))) ∧ WE X e r1 G1 fun y r2 G2 => ∃ zs r3 xs, fz r2 y = some (.tup (List.map f zs), r3) ∧ r3[i]? = some (.own (.lst (List.map f xs))) ∧ xs.length + zs.length ≤ LIM ∧ Q (.sh .non) (r3.set i (.own (.lst ((xs ++ zs).map f)))) G2)
    (hbase : attributeBase o "extend" X.env (eval o X.env) = eval o X.env := by rfl)
    (hfew : ((backTo cpos (starEach [e] X.env)).all (fun x => !x.1) && (backToKw cpos (keywordEach [] X.env)).all (fun x => x.1.isSome) && decide (([e] : List Expr).length + ([] : List Keyword).length + (if ([] : List Keyword).isEmpty then 0 else 1) < 30)) = true := by rfl)
    (hline : (apos.endLine == cpos.line) = true := by rfl) (hs : starEach [e] X.env = (false, eval e X.env) :: starEach [] X.env := by rfl) (hplain : (backTo cpos (starEach [] X.env)).any (·.1) = false := by rfl) :
    WE X (.Call (.Attribute o "extend" apos) [e] [] cpos) r G Q :=
  we_m1 PySem.F.plainAttrs_list PySem.F.slot_list_extend PySem.F.type_list_extend (h.mono fun x r1 G1 ⟨i, xs0, h1, h2, h3⟩ => ⟨i, _, h1, h2, h3.mono fun y r2 G2 ⟨zs, r3, xs, k1, k2, k3, k4⟩ => ⟨_, r3, _, k1, k2, mw_extendU (by rw [List.length_map, List.length_map]; exact k3) (by rw [List.map_append] at k4; exact k4)⟩⟩) hbase hfew hline hs hplain
end
theorem bt_divmod : bootBuiltins "divmod" = some (.builtin "divmod") := by decide +kernel
section
open PySem.W PySem.Calls
variable {prog : Program} {w : World} {A : Around} {E : Value → Shared → Prop} {s : Shared} {K : Frag} {x C L f : Addr} {h₀ : Heap} {m : Str → Option Value} {ox : Obj} {od : Option Obj}
theorem ne_bind (self : Value) : bindSpecial (.builtin "object.__ne__") self = pure (.builtin "object.__ne__", [self]) :=
  (Slot.of (T := "object") (name := "__ne__") (owner := "object") (n := "__ne__") (by rw [typeLookup_type, builtinLookup_eq_fast]; kernel_rfl) (by decide +kernel) (by decide +kernel) (by decide +kernel)
    (.inl (by decide +kernel)) (by rw [isSubtype_type]; kernel_rfl)).bind self
theorem ifBoundNe_K {M : Model} {args : List Value} {Q : Option Value → Shared → Prop} (X : K.In s.heap) (I : InstAt s.heap x ox C od) (hs : findIn K (.ref C) "__ne__" = some (some (.builtin "object.__ne__")))
    (h : wpAny M A (call (.builtin "object.__ne__") (.ref x :: args)) (fun v => Q (some v)) E s) : wpAny M A (callSpecialIfBound? (.ref x) "__ne__" args) Q E s := by
  simp only [callSpecialIfBound?, bindSpecialIfBound?]
  refine wpAny_holding (wpAny_bind (wpAny_bind (wpAny_bind (I.type.here ((looks_findIn X hs).here ?_)))))
  refine wpAny_bind (wpAny_askSetting (wpAny_ite ?_))
  have fin : wpAny M A (call (.builtin "object.__ne__") ([.ref x] ++ args) >>= fun v => pure (some v)) Q E s := wpAny_bind (wpAny_mono h (fun v s' h' => wpAny_pure h') fun _ _ h' => h')
  split
  · exact wpAny_bind ((Looks.of_pure (ne_bind _)).here (wpAny_pure (by exact fin)))
  · exact wpAny_tryCatch (wpAny_bind ((Looks.of_pure (ne_bind _)).here (wpAny_pure (by exact fin))))
theorem objNe_K {b : Value} {R : Result → Shared → Prop} (X : K.In s.heap) (I : InstAt s.heap x ox C od) (hp : plainOver K C = true) (hu : A.in1.units < cLine) (hs : findIn K (.ref C) "__eq__" = some (some (.ref f))) (hf : isFn K (.ref f) = true)
    (h : wpAny (model prog w) A.in1 (call (.ref f) [.ref x, b]) (fun v s' => ∃ r, v = .bool r ∧ R (.ok (.ret (.bool (!r)))) s') (fun e s' => R (.error e) s') s) :
    codeAny (model prog w) A (.call (.builtin "object.__ne__") ⟨[.ref x, b], []⟩) R s := by
  obtain ⟨cd, hc, ho⟩ := any_some hp
  have ne : cd.mro.isEmpty = false := by cases q : cd.mro with | nil => rw [q] at ho; cases ho | cons _ _ => rfl
  have sub : Looks (model prog w) s.heap (isInstance (.ref x) (.type "object")) true := I.type.andThen (looks_mroIn X (by unfold mroIn; rw [hc, Option.bind_some, if_neg (by rw [ne]; decide), only_has ho]))
  refine codeAny_call_builtin (by decide +kernel) F.cmpEntry_ne (@check_slot (model prog w) _ _ s "object.__ne__" "object" "__ne__" (.ref x) [b] [] _ F.cmpKind_ne F.cmpSplit_ne sub (F.cmpArgs_ne (.ref x) b) ?_)
  obtain ⟨hh, g, d, t, os⟩ := s
  unfold Builtin.«object.__ne__»
  repeat (first
    | with_reducible refine wpAny_cRoomFor hu ?_
    | (refine wpAny_bind (m := callSpecialIfBound? (.ref x) (Str.ofString "__eq__") [b])
        (ifBound_K X I hs hf (wpAny_mono h (fun r s' hr => by
          obtain ⟨b, rfl, hq⟩ := hr
          repeat (first | exact hq | exact wpAny_pure hq | exact wpAny_truthy_bool hq | (refine wpAny_bind (m := truthy (.bool _)) (wpAny_truthy_bool ?_)) | wp_step)) fun _ _ e => e)))
    | wp_step)
theorem cmpNe_K {b tb : Value} {Q : Value → Shared → Prop} (hu : A.units < cLine) (hu1 : A.in1.units < cLine) (F : Fr h₀ L s.heap m) (X₀ : K.In h₀) (I : InstAt s.heap x ox C od) (hb : Looks (model prog w) s.heap (typeOf b) tb) (hn : notFirst K C tb = true)
    (hp : plainOver K C = true) (hne : findIn K (.ref C) "__ne__" = some (some (.builtin "object.__ne__"))) (hs : findIn K (.ref C) "__eq__" = some (some (.ref f))) (hf : isFn K (.ref f) = true)
    (h : wpAny (model prog w) A.in1 (call (.ref f) [.ref x, b]) (fun v s' => ∃ r, v = .bool r ∧ Q (.bool (!r)) s') E s) : wpAny (model prog w) A (compareOp .NotEq (.ref x) b) Q E s := by
  have X := X₀.keeps F.keep
  have one : wpAny (model prog w) A (tryCompare (.ref x) "__ne__" b) (fun r s' => ∃ v, r = some v ∧ Q v s') E s := by
    unfold tryCompare
    refine wpAny_bind (ifBoundNe_K X I hne (wpAny_call (objNe_K X I hp hu1 hs hf (wpAny_mono h (fun v s' hv => ?_) fun _ _ e => e))))
    obtain ⟨r, rfl, hq⟩ := hv
    exact ⟨r, rfl, wpAny_pure ⟨_, rfl, hq⟩⟩
  unfold compareOp richCompare
  simp only [oneThing_ref]
  refine wpAny_holding (wpAny_bind (wpAny_cRoomFor hu ?_))
  rw [cmpInfo_NotEq]
  dsimp only
  refine wpAny_bind (I.type.here (wpAny_bind (hb.here ?_)))
  split
  · rename_i q
    have e : subIn K tb (.ref C) = some false := by
      rcases Bool.or_eq_true_iff.mp hn with e | e
      · rw [beq_iff_eq.mp e] at q; simp at q
      · exact beq_iff_eq.mp e
    refine wpAny_bind ((looks_subIn X e).here ?_)
    simp only [Bool.false_eq_true, if_false]
    refine wpAny_bind (wpAny_mono one (fun r s' z => ?_) fun _ _ e => e)
    obtain ⟨v, rfl, hq⟩ := z
    exact wpAny_pure hq
  · refine wpAny_bind (wpAny_pure ?_)
    simp only [Bool.false_eq_true, if_false]
    refine wpAny_bind (wpAny_mono one (fun r s' z => ?_) fun _ _ e => e)
    obtain ⟨v, rfl, hq⟩ := z
    exact wpAny_pure hq
end
/-- what the class says -/
structure NeOf (K : PySem.W.Frag) (C : Addr) : Prop where
  po : PySem.W.plainOver K C = true
  ne : PySem.W.findIn K (.ref C) "__ne__" = some (some (.builtin "object.__ne__"))
  nf : PySem.W.notFirst K C (.ref C) = true
def rOwnNe (K : PySem.W.Frag) (C : Addr) (sp : Sp) (E : XK) : R2 := fun x y H Q => ∃ a dx vs b dy ws, x = .ref a ∧ y = .ref b ∧ SlX.Slt H a C dx vs ∧ SlX.Slt H b C dy ws ∧ sp [x, y] H (fun z H' => ∃ r, z = .bl r ∧ Q (.bl (!r)) H') E
theorem op_ownNe {X : Cx} {C g : Addr} {CX : CXT} {n : Nat} {sp : Sp} {E : XK} (nc : NeOf X.K C) (hs : PySem.W.findIn X.K (.ref C) "__eq__" = some (some (.ref g))) (hf : PySem.W.isFn X.K (.ref g) = true) (F : FnR X.prog X.w X.K X.mg X.base CX n g sp)
    (hr : Room (n + 1) X.A) (hx : Passes CX X E) : OpR X (compareOp .NotEq) (rOwnNe X.K C sp E) := by
  intro pins s σ H x y v u Q I rx ry h
  obtain ⟨a, dx, vs, b, dy, ws, rfl, rfl, ha, hb, q⟩ := h
  cases (show v = Value.ref a from rx)
  cases (show u = Value.ref b from ry)
  obtain ⟨sl, od, _, J, _⟩ := SlX.slt_inst I ha
  obtain ⟨sl', od', _, J', _⟩ := SlX.slt_inst I hb
  obtain ⟨m, hF⟩ := I.fr
  have hr1 : Room n X.A.in1 := hr.in1
  refine cmpNe_K (tb := .ref C) hr.units0 hr1.units0 hF I.ok.mod.kin J J'.type nc.nf nc.po nc.ne hs hf ?_
  refine wpAny_mono (wpAny_call (SlX.run_at (us := [.ref a, .ref b]) (ws := [.ref a, .ref b]) F hr1 I.env0.in1 hx I (.cons rfl (.cons rfl .nil)) q)) (fun w s' z => ?_) fun _ _ x => x
  obtain ⟨z', H', I', rz, r, ei, qz⟩ := z
  subst ei
  cases (show w = Value.bool r from rz)
  exact ⟨r, rfl, .bl (!r), H', I', rfl, qz⟩
section
variable {X : Cy}
theorem opw_ownNe {C : Addr} {k j : Nat} {ps : List Str} {sp : FSp} {ds es : List D} {Q : Res → Prop} (M : SpecD X.prog X.w X.K X.mg X.base C "__eq__" k ps sp) (nc : NeOf X.K C) (hr : Room j X.A) (h : ∀ G, sp [.ins C ds, .ins C es] G (fun z G2 => G2 = G ∧ ∃ r, z = .sh (.bl r) ∧ Q (.sh (.bl (!r)))) (fun _ _ => False)) (hj : k + 1 ≤ j := by omega) :
    OpW X (compareOp .NotEq) (.ins C ds) (.ins C es) Q := fun F0 T F G H r σ va vb S ha hb => by
  obtain ⟨g, fd, h1, h2, h3, h4⟩ := M.ex
  have ra := ha.rep_ins
  have rb := hb.rep_ins
  obtain ⟨ad, dx, vs, rfl, z1, z2⟩ := ha.ins S.bas.fh
  obtain ⟨bd, dy, ws, rfl, y1, y2⟩ := hb.ins S.bas.fh
  refine ⟨_, op_ownNe (E := fun _ _ _ => False) nc h1 h2 (fnr h3 h4) (hr.mono hj) passF, ad, dx, vs.map some, bd, dy, ws.map some, rfl, rfl, z1, y1, ?_⟩
  obtain ⟨F1, G1, ds1, post, px, k1, k2, k3, k4, k5, k6, k7⟩ := spD_same (E := fun _ _ _ => False) (ds := [.ins C ds, .ins C es]) S ⟨_, _, rfl, ra, .one rb⟩ (h G)
  refine ⟨F1, G1, ds1, post, px, k1, k2, k3, k4, k5, fun x G' v' H' F' hp B rt => ?_, k7⟩
  obtain ⟨x', F'', q1, q2, q3, q4⟩ := k6 x G' v' H' F' hp B rt
  obtain ⟨b, rfl, hq⟩ := q4
  exact ⟨b, q3, .sh (.bl (!b)), F'', q1, q2, rfl, hq⟩
end
abbrev eSi {α : Type} (f : α → D) : Int ⊕ α → D := fun v => match v with
  | .inl i => .int i
  | .inr a => f a
section
variable {X : Cy} {a b e : Expr} {es : List Expr} {r : Env2} {G : GD} {pos p0 p lpos : Pos} {α β : Type}
theorem we_siR {f : α → D} {Q : Res → Env2 → GD → Prop} (h : WE X e r G fun z r1 G1 => ∃ (x : Int ⊕ α) (y : α), z = .sh (eSi f x) ∧ x.getRight? = some y ∧ Q (.sh (f y)) r1 G1) : WE X e r G Q :=
  h.mono fun z r1 G1 ⟨x, y, h1, h2, q⟩ => by
    cases x with
    | inl s => cases h2
    | inr a => cases h2; subst h1; exact q
end
/-- a != b of such, both of one kind -/
def Out.neSi {α : Type} (eqf : α → α → Out Bool) (a b : Int ⊕ α) : Out Bool := match a, b with
  | .inl i, .inl j => .ok (!decide (i = j))
  | .inr x, .inr y => (eqf x y).bind fun r => .ok (!r)
  | _, _ => .no
theorem opw_neSi {X : Cy} {α : Type} {f : α → D} {C : Addr} {k j : Nat} {ps : List Str} {sp : FSp} {eqf : α → α → Out Bool} {ds : α → List D} (hf : ∀ a, f a = .ins C (ds a)) (M : SpecD X.prog X.w X.K X.mg X.base C "__eq__" k ps sp) (nc : NeOf X.K C) (hr : Room j X.A)
    (hsp : ∀ a b G (Q' : Bool → Prop), (eqf a b).sat Q' (fun _ => False) → sp [f a, f b] G (fun z G2 => G2 = G ∧ ∃ r, z = .sh (.bl r) ∧ Q' r) (fun _ _ => False)) (a b : Int ⊕ α) {Q : Res → Prop} (h : (Out.neSi eqf a b).sat (fun r => Q (.sh (.bl r))) (fun _ => False)) (hj : k + 1 ≤ j := by omega) :
    OpW X (compareOp .NotEq) (eSi f a) (eSi f b) Q := by
  cases a with
  | inl i =>
    cases b with
    | inl l => exact opw_neI h
    | inr y => exact h.elim
  | inr x =>
    cases b with
    | inl l => exact h.elim
    | inr y =>
      show OpW X (compareOp .NotEq) (f x) (f y) Q
      have h2 := Out.sb (show ((eqf x y).bind fun r => Out.ok (!r)).sat (fun r => Q (.sh (.bl r))) (fun _ => False) from h)
      have h3 := fun G => hsp x y G _ h2
      rw [hf x, hf y] at h3 ⊢
      exact opw_ownNe M nc hr (fun G => by
        have := h3 G
        exact this) hj
def Out.tryA {α : Type} (m : Out α) (hd : Xm → Option α) : Out α := match m with
  | .ok a => .ok a
  | .ex x => match hd x with
    | some v => .ok v
    | none => .no
  | .no => .no
theorem Out.tryA_sat {α : Type} {m : Out α} {hd : Xm → Option α} {Q : α → Prop} {E : Xm → Prop} (h : (Out.tryA m hd).sat Q E) : m.sat Q (fun x => ∃ v, hd x = some v ∧ Q v) := by
  cases m with
  | ok a => exact h
  | ex x =>
    have h : (match hd x with | some v => Out.ok v | none => .no).sat Q E := h
    cases c : hd x with
    | none => rw [c] at h; exact h.elim
    | some v => rw [c] at h; exact ⟨v, c, h⟩
  | no => exact h
def Out.okv {α : Type} : Out α → Option α
  | .ok a => some a
  | _ => none
theorem Out.okv_sat {α : Type} {m : Out α} {v : α} {Q : α → Prop} (h : m.okv = some v) (q : Q v) : m.sat Q (fun _ => False) := by
  cases m with
  | ok a => cases h; exact q
  | ex x => cases h
  | no => cases h
section
variable {X : Cy} {r : Env2} {G : GD} {D0 : EndsD} {body suite : List Stmt} {b0 : Stmt} {np pos pos' : Pos} {cx : Nat → Addr} {α : Type}
theorem ws_tryA {x n : Str} {i : Nat} {C : Addr} {m : Out α} {hd : Xm → Option α} {Q' : α → Prop} {E : Xm → Prop} (h : (Out.tryA m hd).sat Q' E) (hstk : X.stack = X.env :: X.outer) (hfr : X.env.frame = some X.env.locals) (nd : X.N.Nodup) (hi : X.N[i]? = some n) (hln : X.env.kindOf n = some .local) (tk : X.Tk) (hu : X.A.units + 64 < cLine) (hg : Gl X x)
    (hm : X.mg x = some (.ref C)) (hir : i < r.length) (hex : ∀ z v, hd z = some v → PySem.W.exmOne X.K (.ref (cx z.n)) (.ref C) = some true)
    (hb : ∀ Y, TryX X (fun xn r1 G1 => Wk r1 r ∧ (∀ a d, G a = some d → G1 a = some d) ∧ ∃ z, xn = xnOf cx z ∧ ∃ v, hd z = some v ∧ Q' v) Y → m.sat Q' (fun z => ∃ v, hd z = some v ∧ Q' v) → WB Y body r G D0)
    (hs : ∀ Y z v ad, hd z = some v → (∀ {m : Out α}, m.okv = some v → m.sat Q' fun _ => False) → SuiY X.toCx (xnOf cx z) ad Y → WB Y (b0 :: suite) (r.set i (.sh (.adr ad))) G { D0 with nx := fun _ _ => False, bk := fun _ _ => False, ct := fun _ _ => False }) (hdb : (x == ("__debug__" : Str)) = false := by decide) :
    WS X (.Try body [.ExceptHandler (some (.Name x np)) (some n) (b0 :: suite) pos'] [] [] pos) r G D0 := fun F0 T F H σ lk S => by
  refine RunS.of (ps_try_as (X := X.toCx) (c := .ref C) (i := i) (Wout := X.WX)
    (tb := fun W D σ H => ∀ (pn : List (Addr × Obj)) (xe : Value → Shared → Prop), Takes (X.toCx.tr pn xe) W → PassesOwn (model X.prog X.w) X.A X.env xe → RunB (X.toCx.tr pn xe) body D σ H)
    (ts := fun ad cls d D σ H => ∀ (oe : Obj) (pn : List (Addr × Obj)), Zc cls d oe → (∃ vs, oe.data = .fields vs) → RunB (X.toCx.suite ad ((ad, oe) :: pn)) (b0 :: suite) D σ H)
    hstk hfr nd hi hln ⟨hg, hdb, .inl hm⟩ tk (fun W pn xe tkW hp => ⟨fun pins s σ H D I q => q pn xe tkW hp pins s I⟩) (fun a oe cls d pn hz hv => ⟨fun pins s σ H D I q => q oe pn hz hv pins s I⟩)) ?_
  intro pn xe tkW hp
  have tkY : Cy.Tk { X.toCx.tr pn xe with F0 := F0, T := T, QX := fun xn r1 G1 => Wk r1 r ∧ (∀ a d, G a = some d → G1 a = some d) ∧ ∃ z, xn = xnOf cx z ∧ ∃ v, hd z = some v ∧ Q' v } := tkW.imp fun cls d σ1 H1 ⟨r1, G1, F1, xn, S1, ex, hw, hG1, z, hz, v, hv, hq⟩ => by
    subst hz
    have hcls : cls = .ref (cx z.n) := by have := ex.1; rw [← this]; rfl
    refine ⟨true, by rw [hcls]; exact hex z v hv, fun _ a na oe pn2 hz2 hv2 => ?_, fun z => by cases z⟩
    have S2 := Sta.drop (S1.weak hw) hG1
    have S3 : Sta X.K F1 T F1 G H1 (r.set i (.sh (.adr a))) (σ1.set i (some (.ref a))) := by
      have B := S2.bas
      have S4 : Sta X.K F1 T F1 G H1 r σ1 := ⟨⟨Ex.refl _, fun _ _ z => .inl z, B.fh, B.gh, B.fg, B.gt, B.tk⟩, S2.len, S2.sl, S2.ap⟩
      exact S4.set hir ⟨.ref a, rfl, rfl⟩ fun d' z => nomatch z
    have Y := hs { X.toCx.suite a ((a, oe) :: pn2) with F0 := F1, T := T, QX := fun _ _ _ => False } z v a hv (fun {m} e => Out.okv_sat e hq) ⟨oe, pn2, d, F1, T, ⟨hu⟩, by rw [show (xnOf cx z).cls = cls from ex.1]; exact hz2, hv2, by rw [show (xnOf cx z).cls = cls from ex.1]; exact ex, rfl⟩
    have lk1 : Lk { X.toCx with F0 := F0, T := T, QX := fun _ _ _ => False } F1 T := ⟨Ex.refl _, S1.bas.ff, S1.bas.ft⟩
    refine (Y F1 T F1 H1 (σ1.set i (some (.ref a))) ⟨Ex.refl _, Ex.refl _, fun _ _ z => .inl z⟩ S3).mono (fun σ2 H2 ⟨_, _, _, _, z⟩ => z.elim) (fun v H2 ⟨y, G2, F2, B, rt, q⟩ => ⟨y, G2, F2, lk1.bas B, rt, q⟩) (fun σ2 H2 ⟨_, _, _, _, z⟩ => z.elim) (fun σ2 H2 ⟨_, _, _, _, z⟩ => z.elim)
  exact hb _ ⟨pn, xe, F0, T, tkY, hp, rfl⟩ (Out.tryA_sat h) F0 T F H σ ⟨Ex.refl _, Ex.refl _, fun _ _ z => .inl z⟩ S
end
section
variable {X : Cy} {a : Expr} {r : Env2} {G : GD} {pos p0 : Pos} {α : Type}
theorem callR_or {X : Cx} {f : Value} {r1 r2 : List V → Hp → VK → Prop} (h1 : CallR X f r1) (h2 : CallR X f r2) : CallR X f (fun xs H Q => r1 xs H Q ∨ r2 xs H Q) := fun pins s σ H xs us Q I r h =>
  h.elim (h1 pins s σ H xs us Q I r) (h2 pins s σ H xs us Q I r)
theorem we_isiSi2 {f : α → D} {ds : α → List D} {x y : Str} {py : Pos} {C : Addr} {Q : Res → Env2 → GD → Prop} (hf : ∀ a, f a = .ins C (ds a)) (cc : SlX.SCls X.K C) (ci : SlX.SIsi X.K C) (hk : PySem.W.kitOne X.K (.ref C) (.type "int") = some false) (hg : Gl X x) (hm : X.mg x = none) (hv : bootBuiltins x = some (.builtin "isinstance")) (hg2 : Gl X y) (hm2 : X.mg y = none) (hv2 : bootBuiltins y = some (.type "int"))
    (h : WE X a r G fun z r1 G1 => ∃ v : Int ⊕ α, z = .sh (eSi f v) ∧ Q (.sh (.bl v.isLeft)) r1 G1)
    (hn : x ≠ "__name__" := by decide) (hdb : (x == ("__debug__" : Str)) = false := by decide) (hn2 : y ≠ "__name__" := by decide) (hdb2 : (y == ("__debug__" : Str)) = false := by decide)
    (he : starEach [a, .Name y py] X.env = (false, eval a X.env) :: starEach [.Name y py] X.env := by rfl) (he2 : starEach [.Name y py] X.env = (false, eval (.Name y py) X.env) :: starEach [] X.env := by rfl) (hpl : (backTo pos (starEach [.Name y py] X.env)).any (·.1) = false := by rfl) :
    WE X (.Call (.Name x p0) [a, .Name y py] [] pos) r G Q := fun F0 T F H σ lk S =>
  Run.of (pe_callB (callR_or call_isi (SlX.call_isiSl (.type "int"))) hg hm hv (pa_cons peR (pa_cons (pe_bltn (v := .ty "int") hg2 hm2 hv2 rfl hn2 hdb2) pa_nil he2) he) hn hdb he hpl) ((h F0 T F H σ lk S).mono fun v H1 ⟨z, r1, G1, F1, e1, S1, k1, x, q1, q4⟩ => by
    subst q1
    cases x with
    | inl s => exact .inl ⟨v, .ty "int", .type "int", .type "int", true, rfl, .ty "int", tyX_of S1.bas.fh (S1.viewR k1 (.inl rfl)) rfl, kt_int_int, .sh (.bl true), r1, G1, F1, e1, S1, rfl, q4⟩
    | inr b =>
      have k2 : ResOk X.K T F1 G1 H1 r1 σ (.sh (.ins C (ds b))) v := by rw [← hf b]; exact k1
      obtain ⟨ad, dx, vs, rfl, z1, z2⟩ := (S1.view k2 rfl).ins S1.bas.fh
      exact .inr ⟨ad, C, dx, vs.map some, .ty "int", false, rfl, rfl, fun w hw => hw, z1, cc, ci, hk, .sh (.bl false), r1, G1, F1, e1, S1, rfl, q4⟩)
end
theorem kit_int {K : PySem.W.Frag} {D1 : Addr} {b : Bool} (hs : PySem.W.subIn K (.ref D1) (.type "int") = some b) : PySem.W.kitOne K (.ref D1) (.type "int") = some b := by
  unfold PySem.W.kitOne
  rw [if_neg (show ¬ ((Value.ref D1 == Value.type "int") = true) from fun h => by cases (beq_iff_eq.mp h))]
  unfold PySem.W.kitCls
  dsimp only
  rw [if_pos (by decide +kernel), hs]
open L2 (ixN)
namespace Out
variable {α β σ ρ : Type}
/-- it ends with a value of which Q holds -/
def yes (m : Out α) (Q : α → Prop) : Prop := ∃ a, m = .ok a ∧ Q a
theorem yes_ok {a : α} {Q : α → Prop} (h : Q a) : (Out.ok a).yes Q := ⟨a, rfl, h⟩
theorem yes.mono {m : Out α} {Q Q' : α → Prop} (h : m.yes Q) (k : ∀ a, Q a → Q' a) : m.yes Q' := by
  obtain ⟨a, h1, h2⟩ := h; exact ⟨a, h1, k a h2⟩
theorem yes_bind {m : Out α} {f : α → Out β} {Q : β → Prop} {R : α → Prop} (h : m.yes R) (k : ∀ a, R a → (f a).yes Q) : (m.bind f).yes Q := by
  obtain ⟨a, rfl, h2⟩ := h; exact k a h2
theorem yes.eq {m : Out α} {a : α} (h : m.yes (· = a)) : m = .ok a := by obtain ⟨b, h1, h2⟩ := h; rw [h1, h2]
theorem bind_guard {p : Prop} [Decidable p] (h : p) {f : Unit → Out β} : (guard p).bind f = f () := by rw [guard_pos h]; rfl
theorem bind_get {o : Option α} {a : α} (h : o = some a) {f : α → Out β} : (get o).bind f = f a := by rw [h]; rfl
theorem yes_guard {p : Prop} [Decidable p] (h : p) {f : Unit → Out β} {Q : β → Prop} (k : (f ()).yes Q) : ((guard p).bind f).yes Q := by rw [bind_guard h]; exact k
theorem yes_get {o : Option α} {a : α} (h : o = some a) {f : α → Out β} {Q : β → Prop} (k : (f a).yes Q) : ((get o).bind f).yes Q := by rw [bind_get h]; exact k
theorem yes_let {a : α} {f : α → Out β} {Q : β → Prop} (k : (f a).yes Q) : ((Out.ok a).bind f).yes Q := k
theorem yes_ifF {c : Bool} {a b : Out α} {Q : α → Prop} (h : c = false) (k : b.yes Q) : (if c = true then a else b).yes Q := by rw [if_neg (by rw [h]; exact Bool.false_ne_true)]; exact k
theorem bind_assoc {γ : Type} {m : Out α} {f : α → Out β} {g : β → Out γ} : (m.bind f).bind g = m.bind fun a => (f a).bind g := by cases m <;> rfl
/-- loops: an invariant over what was done so far -/
theorem fold_yes {f : σ → α → Out σ} (I : List α → σ → Prop) : ∀ (xs : List α) (s0 : σ), I [] s0 → (∀ pre x post s, xs = pre ++ x :: post → I pre s → (f s x).yes (I (pre ++ [x]))) → (fold f xs s0).yes (I xs) := by
  have key : ∀ (xs : List α) (pre : List α) (s : σ), I pre s → (∀ p x post s, pre ++ xs = p ++ x :: post → pre.length ≤ p.length → I p s → (f s x).yes (I (p ++ [x]))) → (fold f xs s).yes (I (pre ++ xs)) := by
    intro xs
    induction xs with
    | nil => intro pre s h0 _; rw [List.append_nil]; exact yes_ok h0
    | cons x xs ih =>
      intro pre s h0 hs
      refine yes_bind (hs pre x xs s rfl (Nat.le_refl _) h0) fun s' h' => ?_
      have := ih (pre ++ [x]) s' h' fun p y post s e hl hI => hs p y post s (by rw [← e, List.append_assoc]; rfl) (by rw [List.length_append] at hl; exact Nat.le_trans (Nat.le_add_right _ _) hl) hI
      rw [List.append_assoc] at this
      exact this
  intro xs s0 h0 hs
  exact key xs [] s0 h0 fun p x post s e _ hI => hs p x post s e hI
theorem fold_nil {f : σ → α → Out σ} {s : σ} : fold f [] s = .ok s := rfl
theorem fold_cons {f : σ → α → Out σ} {s : σ} {x : α} {xs : List α} : fold f (x :: xs) s = (f s x).bind (fold f xs) := rfl
theorem fold_append {f : σ → α → Out σ} : ∀ {xs ys : List α} {s : σ}, fold f (xs ++ ys) s = (fold f xs s).bind (fold f ys)
  | [], ys, s => rfl
  | x :: xs, ys, s => by
    rw [List.cons_append, fold_cons, fold_cons, bind_assoc]
    congr 1; funext a; exact fold_append
/-- a loop that is a plain one -/
theorem fold_plain {f : σ → α → Out σ} {g : σ → α → σ} : ∀ (xs : List α) (s : σ), (∀ s x, x ∈ xs → f s x = .ok (g s x)) → fold f xs s = .ok (xs.foldl g s)
  | [], s, _ => rfl
  | x :: xs, s, h => by
    rw [fold_cons, h s x List.mem_cons_self, bind_ok, fold_plain xs _ fun s y hy => h s y (List.mem_cons_of_mem _ hy)]; rfl
/-- loops with a return: an invariant, and what a return says -/
theorem loop_yes {f : σ → α → Out (Rt σ ρ)} (I : List α → σ → Prop) (R : ρ → Prop) : ∀ (xs : List α) (s0 : σ), I [] s0 → (∀ pre x post s, xs = pre ++ x :: post → I pre s → (f s x).yes fun t => match t with | .nx s' => I (pre ++ [x]) s' | .rt v => R v) → (loop f xs s0).yes fun t => match t with | .nx s' => I xs s' | .rt v => R v := by
  have key : ∀ (xs : List α) (pre : List α) (s : σ), I pre s → (∀ p x post s, pre ++ xs = p ++ x :: post → pre.length ≤ p.length → I p s → (f s x).yes fun t => match t with | .nx s' => I (p ++ [x]) s' | .rt v => R v) → (loop f xs s).yes fun t => match t with | .nx s' => I (pre ++ xs) s' | .rt v => R v := by
    intro xs
    induction xs with
    | nil => intro pre s h0 _; rw [List.append_nil]; exact yes_ok h0
    | cons x xs ih =>
      intro pre s h0 hs
      refine yes_bind (hs pre x xs s rfl (Nat.le_refl _) h0) fun t h' => ?_
      cases t with
      | nx s' =>
        have := ih (pre ++ [x]) s' h' fun p y post s e hl hI => hs p y post s (by rw [← e, List.append_assoc]; rfl) (by rw [List.length_append] at hl; exact Nat.le_trans (Nat.le_add_right _ _) hl) hI
        rw [List.append_assoc] at this
        exact this
      | rt v => exact yes_ok h'
  intro xs s0 h0 hs
  exact key xs [] s0 h0 fun p x post s e _ hI => hs p x post s e hI
/-- comprehensions -/
theorem compS_unit {f : Unit → α → Out (Option β × Unit)} {o : α → Option β} : ∀ (xs : List α) (acc : List β), (∀ x, x ∈ xs → f () x = .ok (o x, ())) → compS f xs acc () = .ok (acc ++ xs.filterMap o, ())
  | [], acc, _ => by unfold compS; simp
  | x :: xs, acc, h => by
    unfold compS
    rw [h x List.mem_cons_self, bind_ok]
    rw [compS_unit xs _ fun y hy => h y (List.mem_cons_of_mem _ hy)]
    cases hx : o x with
    | none => simp [hx]
    | some y => simp [hx]
end Out
open Out (Rt)
section
variable {α β : Type}
theorem le_of_lt {xs : List Int} (h : xs.Pairwise (· < ·)) : xs.Pairwise (· ≤ ·) := h.imp fun h => by omega
theorem pix_nat {xs : List α} {i : Nat} {x : α} (h : xs[i]? = some x) : pix xs (i : Int) = some x := by
  have hi := (List.getElem?_eq_some_iff.mp h).1
  unfold pix ixN
  rw [if_pos (by omega), if_pos (by omega)]
  simpa using h
theorem pix_pos {xs : List α} {i : Int} (h0 : 0 ≤ i) (h1 : i < xs.length) : pix xs i = xs[i.toNat]? := by
  unfold pix ixN
  rw [if_pos h0, if_pos h1]; rfl
theorem pix_some {xs : List α} {i : Int} (h0 : 0 ≤ i) (h1 : i < xs.length) : ∃ x, pix xs i = some x ∧ x ∈ xs := by
  rw [pix_pos h0 h1]
  have : i.toNat < xs.length := by omega
  exact ⟨xs[i.toNat], List.getElem?_eq_getElem this, List.getElem_mem _⟩
theorem pix_last {xs : List α} {x : α} (h : xs.getLast? = some x) : pix xs (-1) = some x := by
  have hne : xs ≠ [] := by intro e; rw [e] at h; cases h
  have hl : 0 < xs.length := List.length_pos_iff.mpr hne
  unfold pix ixN
  rw [if_neg (by omega), if_pos (by omega)]
  rw [List.getLast?_eq_getElem?] at h
  rw [show ((-1 : Int) + (xs.length : Int)).toNat = xs.length - 1 by omega]
  exact h
theorem penumF_get : ∀ (xs : List α) (k i : Nat), (penumF k xs)[i]? = (xs[i]?).map fun x => (((k + i : Nat) : Int), x)
  | [], k, i => by unfold penumF; simp
  | x :: xs, k, 0 => by unfold penumF; simp
  | x :: xs, k, i + 1 => by
    unfold penumF
    rw [List.getElem?_cons_succ, penumF_get xs (k + 1) i, List.getElem?_cons_succ]
    rw [show k + 1 + i = k + (i + 1) by omega]
theorem penum_get (xs : List α) (i : Nat) : (penum xs)[i]? = (xs[i]?).map fun x => ((i : Int), x) := by
  unfold penum; rw [penumF_get, Nat.zero_add]
/-- a walk over an enumerated list: what stands at a place -/
theorem penum_split {xs : List α} {pre post : List (Int × α)} {p : Int × α} (h : penum xs = pre ++ p :: post) : ∃ i : Nat, i = pre.length ∧ p.1 = (i : Int) ∧ xs[i]? = some p.2 ∧ pre = penum (xs.take i) := by
  have hg : (penum xs)[pre.length]? = some p := by rw [h]; simp
  rw [penum_get] at hg
  cases hx : xs[pre.length]? with
  | none => rw [hx] at hg; cases hg
  | some x =>
    rw [hx] at hg
    have hp : ((pre.length : Int), x) = p := by simpa using hg
    subst hp
    refine ⟨pre.length, rfl, rfl, hx, ?_⟩
    have hlt := (List.getElem?_eq_some_iff.mp hx).1
    apply List.ext_getElem?
    intro i
    rw [penum_get]
    by_cases hi : i < pre.length
    · have e1 : (penum xs)[i]? = pre[i]? := by rw [h, List.getElem?_append_left hi]
      rw [← e1, penum_get, List.getElem?_take_of_lt hi]
    · rw [List.getElem?_eq_none (by omega), List.getElem?_eq_none (by rw [List.length_take]; omega)]; rfl
end
section
variable {κ ν : Type} [DecidableEq κ]
abbrev keys (kvs : List (κ × ν)) : List κ := kvs.map (·.1)
theorem dhas_iff {kvs : List (κ × ν)} {k : κ} : dhas kvs k = true ↔ k ∈ keys kvs := by
  unfold dhas keys
  rw [List.any_eq_true, List.mem_map]
  constructor
  · rintro ⟨p, h1, h2⟩; exact ⟨p, h1, by simpa using h2⟩
  · rintro ⟨p, h1, h2⟩; exact ⟨p, h1, by simpa using h2⟩
theorem dget_none {kvs : List (κ × ν)} {k : κ} : dget kvs k = none ↔ k ∉ keys kvs := by
  unfold dget keys
  rw [Option.map_eq_none_iff, List.find?_eq_none, List.mem_map]
  constructor
  · rintro h ⟨p, h1, h2⟩; exact h p h1 (by simpa using h2)
  · intro h p h1 h2; exact h ⟨p, h1, by simpa using h2⟩
theorem dget_mem {kvs : List (κ × ν)} {k : κ} {v : ν} (h : dget kvs k = some v) : (k, v) ∈ kvs := by
  unfold dget at h
  rw [Option.map_eq_some_iff] at h
  obtain ⟨p, h1, h2⟩ := h
  have := List.find?_some h1
  have hk : p.1 = k := by simpa using this
  rw [← hk, ← h2]
  exact List.mem_of_find?_eq_some h1
theorem dget_some {kvs : List (κ × ν)} {k : κ} (h : k ∈ keys kvs) : ∃ v, dget kvs k = some v := by
  cases e : dget kvs k with
  | none => exact absurd h (dget_none.mp e)
  | some v => exact ⟨v, rfl⟩
theorem dget_of_mem {kvs : List (κ × ν)} {k : κ} {v : ν} (hn : (keys kvs).Nodup) (h : (k, v) ∈ kvs) : dget kvs k = some v := by
  induction kvs with
  | nil => cases h
  | cons p r ih =>
    unfold dget
    rw [List.find?_cons]
    by_cases e : p.1 = k
    · rw [show decide (p.1 = k) = true by simp [e]]
      rcases List.mem_cons.mp h with h | h
      · rw [← h]; rfl
      · exfalso
        have := (List.nodup_cons.mp hn).1
        exact this (List.mem_map.mpr ⟨(k, v), h, e.symm⟩)
    · rw [show decide (p.1 = k) = false by simp [e]]
      rcases List.mem_cons.mp h with h | h
      · rw [← h] at e; exact absurd rfl e
      · exact ih (List.nodup_cons.mp hn).2 h
theorem dput_eq (kvs : List (κ × ν)) (k : κ) (v : ν) : dput kvs k v = if dhas kvs k = true then kvs.map (fun p => if p.1 = k then (p.1, v) else p) else kvs ++ [(k, v)] := rfl
theorem dput_new {kvs : List (κ × ν)} {k : κ} {v : ν} (h : k ∉ keys kvs) : dput kvs k v = kvs ++ [(k, v)] := by
  rw [dput_eq, if_neg (show ¬ dhas kvs k = true from fun z => h (dhas_iff.mp z))]
theorem dmk_of_nodup {ps : List (κ × ν)} (h : (keys ps).Nodup) : dmk ps = ps := by
  have key : ∀ (ps acc : List (κ × ν)), (keys (acc ++ ps)).Nodup → ps.foldl (fun acc p => dput acc p.1 p.2) acc = acc ++ ps := by
    intro ps
    induction ps with
    | nil => intro acc _; simp
    | cons p r ih =>
      intro acc h
      rw [List.foldl_cons]
      have hp : p.1 ∉ keys acc := by
        intro z
        unfold keys at h z
        rw [List.map_append, List.nodup_append] at h
        exact h.2.2 _ z p.1 (by simp) rfl
      rw [dput_new hp, ih _ (by rw [List.append_assoc]; exact h), List.append_assoc]; rfl
  exact key ps [] h
end
/-- x can be come to from b by n steps -/
def Wkn (nbr : Int → List Int) (b : Int) : Nat → Int → Prop
  | 0, x => x = b
  | n + 1, x => ∃ y, Wkn nbr b n y ∧ x ∈ nbr y
def Dst (nbr : Int → List Int) (b : Int) (n : Nat) (x : Int) : Prop := Wkn nbr b n x ∧ ∀ m, m < n → ¬ Wkn nbr b m x
section
variable {nbr : Int → List Int} {b : Int}
theorem Dst.uniq {n m : Nat} {x : Int} (h : Dst nbr b n x) (k : Dst nbr b m x) : n = m := by
  rcases Nat.lt_trichotomy n m with z | z | z
  · exact absurd h.1 (k.2 n z)
  · exact z
  · exact absurd k.1 (h.2 m z)
/-- the places found up to level k -/
structure BInv (nbr : Int → List Int) (b : Int) (k : Nat) (found : List (Int × Int)) (level : List Int) : Prop where
  nd : (keys found).Nodup
  has : ∀ x, x ∈ keys found ↔ ∃ n, n ≤ k ∧ Wkn nbr b n x
  val : ∀ x d, dget found x = some d → ∃ n : Nat, d = (n : Int) ∧ Dst nbr b n x
  lv : ∀ x, x ∈ level ↔ Dst nbr b k x
  lnd : level.Nodup
theorem BInv.at {k : Nat} {found : List (Int × Int)} {level : List Int} (h : BInv nbr b k found level) {x : Int} {n : Nat} (hd : Dst nbr b n x) (hn : n ≤ k) : dget found x = some (n : Int) := by
  obtain ⟨v, hv⟩ := dget_some ((h.has x).mpr ⟨n, hn, hd.1⟩)
  obtain ⟨m, h1, h2⟩ := h.val x v hv
  rw [hv, h1, h2.uniq hd]
end
inductive Rch (R : Int → Int → Prop) : Int → Int → Prop
  | refl (x : Int) : Rch R x x
  | step {x y z : Int} : Rch R x y → R y z → Rch R x z
theorem Rch.trans {R : Int → Int → Prop} {x y z : Int} (h : Rch R x y) (k : Rch R y z) : Rch R x z := by
  induction k with
  | refl => exact h
  | step _ r ih => exact ih.step r
theorem Rch.one {R : Int → Int → Prop} {x y : Int} (h : R x y) : Rch R x y := (Rch.refl x).step h
theorem Rch.symm {R : Int → Int → Prop} (hs : ∀ a b, R a b → R b a) {x y : Int} (h : Rch R x y) : Rch R y x := by
  induction h with
  | refl => exact .refl _
  | step _ r ih => exact (Rch.one (hs _ _ r)).trans ih
/-- two steps on a bench -/
def RA (e a b : Int) (x y : Int) : Prop := 0 ≤ x ∧ x ≤ e ∧ 0 ≤ y ∧ y ≤ e ∧ (y = x + a ∨ y = x - a ∨ y = x + b ∨ y = x - b)
theorem RA.symm {e a b x y : Int} (h : RA e a b x y) : RA e a b y x := by unfold RA at *; omega
section
variable {nbr : Int → List Int} {b : Int}
theorem Wkn.add {n m : Nat} {x y : Int} (h : Wkn nbr b n y) (k : Wkn nbr y m x) : Wkn nbr b (n + m) x := by
  induction m generalizing x with
  | zero => cases (show x = y from k); exact h
  | succ m ih => obtain ⟨z, h1, h2⟩ := k; exact ⟨z, ih h1, h2⟩
theorem Wkn.one {x : Int} (h : x ∈ nbr b) : Wkn nbr b 1 x := ⟨b, rfl, h⟩
theorem Wkn.inv {P : Int → Prop} (hs : ∀ x y, P x → y ∈ nbr x → P y) (hb : P b) : ∀ {n : Nat} {x : Int}, Wkn nbr b n x → P x
  | 0, x, h => by cases (show x = b from h); exact hb
  | n + 1, x, ⟨y, h1, h2⟩ => hs y x (Wkn.inv hs hb h1) h2
theorem Wkn.symm {P : Int → Prop} (hs : ∀ x y, P x → y ∈ nbr x → P y ∧ x ∈ nbr y) (hb : P b) : ∀ {n : Nat} {x : Int}, Wkn nbr b n x → Wkn nbr x n b
  | 0, x, h => by cases (show x = b from h); exact rfl
  | n + 1, x, ⟨y, h1, h2⟩ => by
    have hy : P y := Wkn.inv (fun x y a c => (hs x y a c).1) hb h1
    have := (Wkn.one (hs y x hy h2).2).add (Wkn.symm hs hb h1)
    rw [Nat.add_comm] at this; exact this
theorem Dst.symm {P : Int → Prop} (hs : ∀ x y, P x → y ∈ nbr x → P y ∧ x ∈ nbr y) (hb : P b) {n : Nat} {x : Int} (h : Dst nbr b n x) : Dst nbr x n b := by
  have hx : P x := Wkn.inv (fun x y a c => (hs x y a c).1) hb h.1
  exact ⟨h.1.symm hs hb, fun m hm hw => h.2 m hm (hw.symm hs hx)⟩
/-- a place of each smaller distance -/
theorem Dst.count : ∀ {n : Nat} {x : Int}, Dst nbr b n x → ∃ ys : List Int, ys.length = n + 1 ∧ ys.Nodup ∧ ∀ y, y ∈ ys → ∃ m, m ≤ n ∧ Dst nbr b m y
  | 0, x, h => ⟨[x], rfl, by simp, fun y hy => by rw [List.mem_singleton] at hy; subst hy; exact ⟨0, Nat.le_refl _, h⟩⟩
  | n + 1, x, h => by
    obtain ⟨y, h1, h2⟩ := h.1
    have hy : Dst nbr b n y := ⟨h1, fun m hm hw => h.2 (m + 1) (by omega) ⟨y, hw, h2⟩⟩
    obtain ⟨ys, k1, k2, k3⟩ := hy.count
    refine ⟨x :: ys, by rw [List.length_cons, k1], ?_, fun z hz => ?_⟩
    · rw [List.nodup_cons]
      refine ⟨fun hx => ?_, k2⟩
      obtain ⟨m, hm, hd⟩ := k3 x hx
      have := hd.uniq h
      omega
    · rcases List.mem_cons.mp hz with rfl | hz
      · exact ⟨n + 1, Nat.le_refl _, h⟩
      · obtain ⟨m, hm, hd⟩ := k3 z hz; exact ⟨m, by omega, hd⟩
end
section
variable {α β γ : Type} {en f : α → D} {g : β → D} {n : Nat}
theorem ltC_irrefl (a : α) : ltC en a a = false := (PyProof.Rows.listOrd PyProof.Rows.itemOrd).irrefl _
theorem ltC_trans {a b c : α} (h1 : ltC en a b = true) (h2 : ltC en b c = true) : ltC en a c = true := (PyProof.Rows.listOrd PyProof.Rows.itemOrd).trans _ _ _ h1 h2
theorem ltC_str (a b : S) : ltC eZ a b = decide (a.1.cps.toList < b.1.cps.toList) := PySem.W.dataLt_str a.1 b.1
end
open Out (Rt)
theorem compS_none {α β : Type} {f : Unit → α → Out (Option β × Unit)} (xs : List α) (acc : List β) (h : ∀ x, x ∈ xs → f () x = .ok (none, ())) : Out.compS f xs acc () = .ok (acc, ()) := by
  rw [Out.compS_unit (o := fun _ => none) xs acc h]
  simp
open Out (Rt)
def topS (i : Nat) : Stmt := PySem.Challenge.pw_rulerbits_k91_whole_names_that_do_not_as.main.body.getD i (.Pass ⟨0, 0, 0, 0⟩)
abbrev s_is_name : Stmt := topS 11
theorem sc_is_name : FnScope ["name", "letter"] ["name"] (defScope s_is_name) := ⟨rfl, rfl, rfl, by decide +kernel, rfl, by decide +kernel, by decide +kernel⟩
abbrev s_Rack_init : Stmt := inClass (topS 12) 1
theorem sc_Rack_init : FnScope ["self", "rulers", "place", "name"] ["self", "rulers"] (defScope s_Rack_init) := ⟨rfl, rfl, rfl, by decide +kernel, rfl, by decide +kernel, by decide +kernel⟩
abbrev s_Rack_names : Stmt := inClass (topS 12) 2
theorem sc_Rack_names : FnScope ["self"] ["self"] (defScope s_Rack_names) := ⟨rfl, rfl, rfl, by decide +kernel, rfl, by decide +kernel, by decide +kernel⟩
abbrev s_Rack_getitem : Stmt := inClass (topS 12) 4
theorem sc_Rack_getitem : FnScope ["self", "name"] ["self", "name"] (defScope s_Rack_getitem) := ⟨rfl, rfl, rfl, by decide +kernel, rfl, by decide +kernel, by decide +kernel⟩
abbrev s_Rack_len : Stmt := inClass (topS 12) 7
theorem sc_Rack_len : FnScope ["self"] ["self"] (defScope s_Rack_len) := ⟨rfl, rfl, rfl, by decide +kernel, rfl, by decide +kernel, by decide +kernel⟩
abbrev s_Rack_eq : Stmt := inClass (topS 12) 8
theorem sc_Rack_eq : FnScope ["self", "other", "name"] ["self", "other"] (defScope s_Rack_eq) := ⟨rfl, rfl, rfl, by decide +kernel, rfl, by decide +kernel, by decide +kernel⟩
abbrev s_is_number : Stmt := topS 18
theorem sc_is_number : FnScope ["value", "lowest", "highest"] ["value", "lowest", "highest"] (defScope s_is_number) := ⟨rfl, rfl, rfl, by decide +kernel, rfl, by decide +kernel, by decide +kernel⟩
abbrev s_Ruler_init : Stmt := inClass (topS 19) 1
theorem sc_Ruler_init : FnScope ["self", "marks", "error", "index", "mark", "lowest"] ["self", "marks", "error"] (defScope s_Ruler_init) := ⟨rfl, rfl, rfl, by decide +kernel, rfl, by decide +kernel, by decide +kernel⟩
abbrev s_Ruler_marks : Stmt := inClass (topS 19) 2
theorem sc_Ruler_marks : FnScope ["self"] ["self"] (defScope s_Ruler_marks) := ⟨rfl, rfl, rfl, by decide +kernel, rfl, by decide +kernel, by decide +kernel⟩
abbrev s_Ruler_error : Stmt := inClass (topS 19) 3
theorem sc_Ruler_error : FnScope ["self"] ["self"] (defScope s_Ruler_error) := ⟨rfl, rfl, rfl, by decide +kernel, rfl, by decide +kernel, by decide +kernel⟩
abbrev s_Ruler_len : Stmt := inClass (topS 19) 7
theorem sc_Ruler_len : FnScope ["self"] ["self"] (defScope s_Ruler_len) := ⟨rfl, rfl, rfl, by decide +kernel, rfl, by decide +kernel, by decide +kernel⟩
abbrev s_Ruler_eq : Stmt := inClass (topS 19) 8
theorem sc_Ruler_eq : FnScope ["self", "other"] ["self", "other"] (defScope s_Ruler_eq) := ⟨rfl, rfl, rfl, by decide +kernel, rfl, by decide +kernel, by decide +kernel⟩
abbrev s_rack_of : Stmt := topS 21
theorem sc_rack_of : FnScope ["rows", "name", "error", "marks"] ["rows"] (defScope s_rack_of) := ⟨rfl, rfl, rfl, by decide +kernel, rfl, by decide +kernel, by decide +kernel⟩
abbrev s_checksum : Stmt := topS 26
theorem sc_checksum : FnScope ["values", "found", "value"] ["values"] (defScope s_checksum) := ⟨rfl, rfl, rfl, by decide +kernel, rfl, by decide +kernel, by decide +kernel⟩
abbrev s_ruler_codes : Stmt := topS 27
theorem sc_ruler_codes : FnScope ["name", "ruler", "found", "one", "other", "letter"] ["name", "ruler"] (defScope s_ruler_codes) := ⟨rfl, rfl, rfl, by decide +kernel, rfl, by decide +kernel, by decide +kernel⟩
abbrev s_encode_rack : Stmt := topS 28
theorem sc_encode_rack : FnScope ["rack", "found", "name"] ["rack"] (defScope s_encode_rack) := ⟨rfl, rfl, rfl, by decide +kernel, rfl, by decide +kernel, by decide +kernel⟩
abbrev s_Reader_init : Stmt := inClass (topS 29) 1
theorem sc_Reader_init : FnScope ["self", "values"] ["self", "values"] (defScope s_Reader_init) := ⟨rfl, rfl, rfl, by decide +kernel, rfl, by decide +kernel, by decide +kernel⟩
abbrev s_Reader_take : Stmt := inClass (topS 29) 2
theorem sc_Reader_take : FnScope ["self", "smallest", "largest"] ["self", "smallest", "largest"] (defScope s_Reader_take) := ⟨rfl, rfl, rfl, by decide +kernel, rfl, by decide +kernel, by decide +kernel⟩
abbrev s_Reader_take_name : Stmt := inClass (topS 29) 3
theorem sc_Reader_take_name : FnScope ["self", "last", "begin", "name", "turn"] ["self", "last"] (defScope s_Reader_take_name) := ⟨rfl, rfl, rfl, by decide +kernel, rfl, by decide +kernel, by decide +kernel⟩
abbrev s_Reader_take_marks : Stmt := inClass (topS 29) 4
theorem sc_Reader_take_marks : FnScope ["self", "marks", "turn", "quotient"] ["self"] (defScope s_Reader_take_marks) := ⟨rfl, rfl, rfl, by decide +kernel, rfl, by decide +kernel, by decide +kernel⟩
abbrev s_decode_rack : Stmt := topS 30
theorem sc_decode_rack : FnScope ["values", "reader", "rows", "last", "turn", "error", "due"] ["values"] (defScope s_decode_rack) := ⟨rfl, rfl, rfl, by decide +kernel, rfl, by decide +kernel, by decide +kernel⟩
abbrev s_law_mix : Stmt := topS 32
theorem sc_law_mix : FnScope ["_law_script", "_law_seed", "_law_state", "_law_cell"] ["_law_script", "_law_seed"] (defScope s_law_mix) := ⟨rfl, rfl, rfl, by decide +kernel, rfl, by decide +kernel, by decide +kernel⟩
abbrev s_law_next : Stmt := topS 33
theorem sc_law_next : FnScope ["_law_h", "_law_limit", "_law_cell"] ["_law_h", "_law_limit"] (defScope s_law_next) := ⟨rfl, rfl, rfl, by decide +kernel, rfl, by decide +kernel, by decide +kernel⟩
abbrev s_law_marks : Stmt := topS 34
theorem sc_law_marks : FnScope ["_law_h", "_law_most", "_law_wide", "_law_found", "_law_k"] ["_law_h", "_law_most", "_law_wide"] (defScope s_law_marks) := ⟨rfl, rfl, rfl, by decide +kernel, rfl, by decide +kernel, by decide +kernel⟩
abbrev s_law_sum : Stmt := topS 35
theorem sc_law_sum : FnScope ["_law_values", "_law_found", "_law_one"] ["_law_values"] (defScope s_law_sum) := ⟨rfl, rfl, rfl, by decide +kernel, rfl, by decide +kernel, by decide +kernel⟩
abbrev s_law_code : Stmt := topS 36
theorem sc_law_code : FnScope ["_law_drawn", "_law_found", "_law_name", "_law_marks_here", "_law_error", "_law_k", "_law_gap", "_law_sign"] ["_law_drawn"] (defScope s_law_code) := ⟨rfl, rfl, rfl, by decide +kernel, rfl, by decide +kernel, by decide +kernel⟩
abbrev s_law_seen : Stmt := topS 37
theorem sc_law_seen : FnScope ["_law_values", "e"] ["_law_values"] (defScope s_law_seen) := ⟨rfl, rfl, rfl, by decide +kernel, rfl, by decide +kernel, by decide +kernel⟩
abbrev s_law : Stmt := topS 38
theorem sc_law : FnScope ["_law_script", "_law_h", "_law_turn", "_law_names", "_law_found", "_law_wrong", "_law_last", "_law_table", "_law_k", "_law_name", "_law_marks_here", "_law_due", "_law_told"] ["_law_script"] (defScope s_law) := ⟨rfl, rfl, rfl, by decide +kernel, rfl, by decide +kernel, by decide +kernel⟩
abbrev z_marks : S := ⟨"marks", by decide +kernel⟩
abbrev z_error : S := ⟨"error", by decide +kernel⟩
abbrev z_abcdefghijklmnopqrst : S := ⟨"abcdefghijklmnopqrstuvwxyz", by decide +kernel⟩
abbrev z_ : S := ⟨"", by decide +kernel⟩
abbrev z_a : S := ⟨"a", by decide +kernel⟩
abbrev z_ab : S := ⟨"ab", by decide +kernel⟩
abbrev z_ash : S := ⟨"ash", by decide +kernel⟩
abbrev z_b : S := ⟨"b", by decide +kernel⟩
abbrev z_bay : S := ⟨"bay", by decide +kernel⟩
abbrev z_z : S := ⟨"z", by decide +kernel⟩
structure S_Reader where
  codes : List Int
  offset : Int
def mixB (ns : List Int) (seed : Int) : Int := ns.foldl (fun s n => (s * 48271 + n % 2147483629 + 1) % 2147483647) seed
def m_law_mix (ns : List Int) (h : ns.length ≤ 63) (seed : Int) : Bh := ⟨(ns, mixB ns seed, 0), h⟩
def m_law_next (m : Int) (bx : Bh) : Out (Int × Bh) :=
  (Out.guard (0 < m ∧ m < 2 ^ 200)).bind fun _ =>
  (Out.get (pix (bx.1.1 ++ [0]) (bx.1.2.2 % (if ((bx.1.1.length : Nat) : Int) > 1 then ((bx.1.1.length : Nat) : Int) else 1)))).bind fun cell =>
  if 1000000000000000000 ≤ cell then
    (Out.get (L2.ixN bx.1.1.length (bx.1.2.2 % ((bx.1.1.length : Nat) : Int)))).bind fun j =>
    (Out.guard (0 < ((bx.1.1.length : Nat) : Int))).bind fun _ => .ok (cell % m, ⟨(bx.1.1.set j (cell / m), bx.1.2), by rw [List.length_set]; exact bx.2⟩)
  else .ok ((bx.1.2.1 * 48271 + cell * 69621 + 11) % 2147483647 / 7 % m, ⟨(bx.1.1, (bx.1.2.1 * 48271 + cell * 69621 + 11) % 2147483647, bx.1.2.2 + 1), bx.2⟩)
def m_is_number (value1 : Int) (lowest2 : Int) (highest3 : Int) : Bool := (true && ((!false) && ((decide (lowest2 ≤ value1)) && (decide (value1 ≤ highest3)))))
def mk_Ruler (marks1 : List Int) (error2 : Int) : Out (Rul) :=
(Out.fold (σ := Unit) (fun s3 (x5 : (Int × Int)) =>
(if (decide (x5.1 = (0 : Int))) = true then (Out.ok (0 : Int)) else ((Out.get (pix marks1 (x5.1 - (1 : Int)))).bind fun x8 =>
Out.ok (x8 + (1 : Int)))).bind fun i7 =>
if ((decide (x5.1 = (12 : Int))) || (!(m_is_number x5.2 i7 (if (decide (x5.1 = (0 : Int))) = true then (0 : Int) else (300 : Int))))) = true then (
Out.ex ⟨1, [("index", eI x5.1), ("part", eZ z_marks)]⟩)
else (
Out.ok ())) (penum marks1) ()).bind fun s4 =>
if (decide (((marks1).length : Int) < (2 : Int))) = true then (
Out.ex ⟨1, [("index", eI ((marks1).length : Int)), ("part", eZ z_marks)]⟩)
else (
if (!(m_is_number error2 (0 : Int) (9 : Int))) = true then (
Out.ex ⟨1, [("index", eI (0 : Int)), ("part", eZ z_error)]⟩)
else (
Out.ok ⟨error2, marks1⟩))
def m_Ruler_marks (self1 : Rul) : List Int := self1.marks
def m_Ruler_error (self1 : Rul) : Int := self1.error
def m_Ruler___len (self1 : Rul) : Int := ((self1.marks).length : Int)
def m_Ruler___eq (self1 : Rul) (other2 : Rul) : Bool := (true && ((decide (self1.marks = (m_Ruler_marks other2))) && (decide (self1.error = m_Ruler_error other2))))
def m_is_name (name1 : S) : Out (Bool) :=
(if (!true) = true then Out.ok true else ((Out.guard (name1.1.length ≤ LIM)).bind fun _ =>
Out.ok (!((decide ((1 : Int) ≤ (name1.1.length : Int))) && (decide ((name1.1.length : Int) ≤ (8 : Int))))))).bind fun c2 =>
if c2 = true then (
Out.ok false)
else (
(Out.guard ((chrs name1).length ≤ LIM)).bind fun _ =>
Out.ok (decide ((((chrs name1).filter (fun (x4 : Chr) => !decide (x4 ∈ chrs z_abcdefghijklmnopqrst))).map (fun (x4 : Chr) => x4)) = ([] : List Chr))))
def mk_Rack (rulers1 : List (S × Rul)) : Out (Rak) :=
(Out.fold (σ := Unit) (fun s2 (x4 : (Int × S)) =>
(if (decide (x4.1 = (6 : Int))) = true then Out.ok true else ((m_is_name x4.2).bind fun r7 =>
Out.ok (!r7))).bind fun c6 =>
if c6 = true then (
Out.ex ⟨2, [("name", eZ x4.2)]⟩)
else (
Out.ok ())) (penum (rulers1.map (·.1))) ()).bind fun s3 =>
if ((rulers1).isEmpty) = true then (
Out.ex ⟨2, [("name", eU ())]⟩)
else (
(Out.guard ((rulers1).length < 64)).bind fun _ =>
(Out.compS (fun (s11 : Unit) (x8 : S) =>
(Out.get (dget rulers1 x8)).bind fun x13 =>
Out.ok (some (x8, x13), ())) (ssort (rulers1.map (·.1))) [] ()).bind fun l12 =>
Out.ok ⟨dmk l12.1⟩)
def m_Rack_names (self1 : Rak) : List S := (self1.held.map (·.1))
def m_Rack___getitem (self1 : Rak) (name2 : S) : Out (Rul) :=
if (!dhas self1.held name2) = true then (
Out.ex ⟨3, []⟩)
else (
(Out.get (dget self1.held name2)).bind fun x3 =>
Out.ok x3)
def m_Rack___len (self1 : Rak) : Int := ((self1.held).length : Int)
def m_Rack___eq (self1 : Rak) (other2 : Rak) : Out (Bool) :=
if ((!true) || (!decide ((m_Rack_names self1) = (m_Rack_names other2)))) = true then (
Out.ok false)
else (
(Out.compS (fun (s7 : Unit) (x5 : S) =>
(Out.get (dget self1.held x5)).bind fun x9 =>
((m_Rack___getitem other2 x5).nox).bind fun r10 =>
if (!(m_Ruler___eq x9 r10)) = true then (Out.ok (some x5, ())) else Out.ok (none, ())) (self1.held.map (·.1)) [] ()).bind fun l8 =>
Out.ok (decide (l8.1 = ([] : List S))))
def m_checksum (values1 : List Int) : Out (Int) :=
(Out.ok (4 : Int)).bind fun found2 =>
(Out.fold (σ := Int) (fun s3 (x5 : Int) =>
(Out.ok (((s3 * (11 : Int)) + x5) % (233 : Int))).bind fun found7 =>
Out.ok found7) values1 found2).bind fun s4 =>
Out.ok s4
def m_Reader_take (self1 : S_Reader) (smallest2 : Int) (largest3 : Int) : Out (Int × S_Reader) :=
(if (decide (((self1.codes).length : Int) ≤ self1.offset)) = true then Out.ok true else ((Out.get (pix self1.codes self1.offset)).bind fun x5 =>
Out.ok (!(m_is_number x5 smallest2 largest3)))).bind fun c4 =>
if c4 = true then (
Out.ex ⟨21, [("offset", eI self1.offset)]⟩)
else (
(Out.get (pix self1.codes ((self1.offset + (1 : Int)) - (1 : Int)))).bind fun x8 =>
Out.ok (x8, (⟨self1.codes, self1.offset + (1 : Int)⟩ : S_Reader)))
def m_Reader_take_marks (self1 : S_Reader) : Out (List Int × S_Reader) :=
(Out.ok [(0 : Int)]).bind fun marks2 =>
(m_Reader_take self1 (0 : Int) ((12 : Int) - (2 : Int))).bind fun r6 =>
(Out.guard (RG (r6.1 + (1 : Int)))).bind fun _ =>
(Out.fold (σ := (List Int) × (List Int) × Int) (fun s3 (x5 : Int) =>
(m_Reader_take (⟨s3.2.1, s3.2.2⟩ : S_Reader) (0 : Int) (1 : Int)).bind fun r12 =>
(Out.get (pix s3.1 (-(1 : Int)))).bind fun x15 =>
(m_Reader_take r12.2 (0 : Int) ((256 : Int) - (1 : Int))).bind fun r16 =>
(Out.guard ((s3.1).length < LIM)).bind fun _ =>
(Out.ok (s3.1 ++ [(x15 + (r12.1 * (256 : Int))) + r16.1])).bind fun marks19 =>
Out.ok (marks19, r16.2.codes, r16.2.offset)) (rgI 0 (r6.1 + (1 : Int))) (marks2, r6.2.codes, r6.2.offset)).bind fun s4 =>
Out.ok (s4.1, (⟨s4.2.1, s4.2.2⟩ : S_Reader))
def m_Reader_take_name (self1 : S_Reader) (last2 : S) : Out (S × S_Reader) :=
(m_Reader_take self1 (1 : Int) (8 : Int)).bind fun r6 =>
(Out.guard (RG r6.1)).bind fun _ =>
(Out.fold (σ := S × (List Int) × Int) (fun s3 (x5 : Int) =>
(Out.guard (z_abcdefghijklmnopqrst.1.length ≤ LIM)).bind fun _ =>
(m_Reader_take (⟨s3.2.1, s3.2.2⟩ : S_Reader) (1 : Int) (z_abcdefghijklmnopqrst.1.length : Int)).bind fun r13 =>
(Out.guard (z_abcdefghijklmnopqrst.1.length ≤ LIM)).bind fun _ =>
(Out.get (pix (chrs z_abcdefghijklmnopqrst) (r13.1 - (1 : Int)))).bind fun x16 =>
(Out.guard (s3.1.1.length + (oneS x16).1.length ≤ LIM)).bind fun _ =>
(Out.ok (zcat s3.1 (oneS x16))).bind fun name18 =>
Out.ok (name18, r13.2.codes, r13.2.offset)) (rgI 0 r6.1) (z_, r6.2.codes, r6.2.offset)).bind fun s4 =>
if (leC eZ s4.1 last2) = true then (
Out.ex ⟨21, [("offset", eI self1.offset)]⟩)
else (
Out.ok (s4.1, (⟨s4.2.1, s4.2.2⟩ : S_Reader)))
def m_rack_of (rows1 : List ((S × Int × List Int))) : Out (Rak) :=
(Out.compS (fun (s4 : Unit) (x2 : (S × Int × List Int)) =>
((mk_Ruler x2.2.2 x2.2.1).nox).bind fun r6 =>
Out.ok (some (x2.1, r6), ())) rows1 [] ()).bind fun l5 =>
(mk_Rack (dmk l5.1)).bind fun r7 =>
Out.ok r7
def m_decode_rack (values1 : List Int) : Out (Rak) :=
(m_Reader_take (⟨values1, (0 : Int)⟩ : S_Reader) (82 : Int) (82 : Int)).bind fun r4 =>
(Out.ok ([] : List ((S × Int × List Int)))).bind fun rows6 =>
(Out.ok z_).bind fun last7 =>
(m_Reader_take r4.2 (1 : Int) (6 : Int)).bind fun r11 =>
(Out.guard (RG r11.1)).bind fun _ =>
(Out.fold (σ := S × (List ((S × Int × List Int))) × S_Reader) (fun s8 (x10 : Int) =>
(m_Reader_take_name s8.2.2 s8.1).bind fun r17 =>
(m_Reader_take r17.2 (0 : Int) (9 : Int)).bind fun r19 =>
(m_Reader_take_marks r19.2).bind fun r22 =>
(Out.guard ((s8.2.1).length < LIM)).bind fun _ =>
(Out.ok (s8.2.1 ++ [(r17.1, r19.1, r22.1)])).bind fun rows25 =>
Out.ok (r17.1, rows25, r22.2)) (rgI 0 r11.1) (last7, rows6, r11.2)).bind fun s9 =>
(m_checksum (pcut values1 none (some s9.2.2.offset))).bind fun r26 =>
(m_Reader_take s9.2.2 r26 r26).bind fun r27 =>
if (decide (r27.2.offset < ((values1).length : Int))) = true then (
Out.ex ⟨21, [("offset", eI r27.2.offset)]⟩)
else (
(m_rack_of s9.2.1).bind fun r29 =>
Out.ok r29)
def m_ruler_codes (name1 : S) (ruler2 : Rul) : Out (List Int) :=
(Out.guard (name1.1.length ≤ LIM)).bind fun _ =>
(Out.guard ((chrs name1).length ≤ LIM)).bind fun _ =>
(Out.compS (fun (s6 : Unit) (x4 : Chr) =>
(Out.get (zfind z_abcdefghijklmnopqrst x4)).bind fun x8 =>
Out.ok (some ((x8 : Int) + (1 : Int)), ())) (chrs name1) [] ()).bind fun l7 =>
(Out.guard (([(name1.1.length : Int)]).length + (l7.1).length ≤ LIM)).bind fun _ =>
(Out.ok ([(name1.1.length : Int)] ++ l7.1)).bind fun found10 =>
(Out.guard (0 ≤ m_Ruler___len ruler2 ∧ m_Ruler___len ruler2 < 2 ^ 63)).bind fun _ =>
(Out.guard ((found10).length + ([m_Ruler_error ruler2, (m_Ruler___len ruler2) - (2 : Int)]).length ≤ LIM)).bind fun _ =>
(Out.ok (found10 ++ [m_Ruler_error ruler2, (m_Ruler___len ruler2) - (2 : Int)])).bind fun found15 =>
(Out.guard ((m_Ruler_marks ruler2).length ≤ LIM)).bind fun _ =>
(Out.fold (σ := List Int) (fun s16 (x18 : (Int × Int)) =>
(Out.guard (0 < (256 : Int) ∧ (256 : Int) < 1073741824)).bind fun _ =>
(Out.guard ((s16).length + 2 ≤ LIM)).bind fun _ =>
(Out.ok (s16 ++ [(x18.2 - x18.1) / (256 : Int), (x18.2 - x18.1) % (256 : Int)])).bind fun found26 =>
Out.ok found26) ((m_Ruler_marks ruler2).zip (pcut (m_Ruler_marks ruler2) (some (1 : Int)) none)) found15).bind fun s17 =>
Out.ok s17
def m_encode_rack (rack1 : Rak) : Out (List Int) :=
(Out.guard (0 ≤ m_Rack___len rack1 ∧ m_Rack___len rack1 < 2 ^ 63)).bind fun _ =>
(Out.ok [(82 : Int), m_Rack___len rack1]).bind fun found3 =>
(Out.fold (σ := List Int) (fun s4 (x6 : S) =>
((m_Rack___getitem rack1 x6).nox).bind fun r10 =>
(m_ruler_codes x6 r10).bind fun r11 =>
(Out.guard ((s4).length + (r11).length ≤ LIM)).bind fun _ =>
(Out.ok (s4 ++ r11)).bind fun found13 =>
Out.ok found13) (m_Rack_names rack1) found3).bind fun s5 =>
(m_checksum s5).bind fun r14 =>
(Out.guard ((s5).length + ([r14]).length ≤ LIM)).bind fun _ =>
Out.ok (s5 ++ [r14])
def m_law_marks (most1 : Int) (wide2 : Int) (bx : Bh) : Out (List Int × Bh) :=
(Out.ok [(0 : Int)]).bind fun found3 =>
(m_law_next (most1 - (1 : Int)) bx).bind fun r7 =>
(Out.guard (RG ((1 : Int) + r7.1))).bind fun _ =>
(Out.fold (σ := (List Int) × Bh) (fun s4 (x6 : Int) =>
(Out.get (pix s4.1 (-(1 : Int)))).bind fun x10 =>
(m_law_next wide2 s4.2).bind fun r11 =>
(Out.guard ((s4.1).length < LIM)).bind fun _ =>
(Out.ok (s4.1 ++ [(x10 + (1 : Int)) + r11.1])).bind fun found13 =>
Out.ok (found13, r11.2)) (rgI 0 ((1 : Int) + r7.1)) (found3, r7.2)).bind fun s5 =>
Out.ok (s5.1, s5.2)
def m_law_sum (values1 : List Int) : Out (Int) :=
(Out.ok (4 : Int)).bind fun found2 =>
(Out.fold (σ := Int) (fun s3 (x5 : Int) =>
(Out.ok (((s3 * (11 : Int)) + x5) % (233 : Int))).bind fun found7 =>
Out.ok found7) values1 found2).bind fun s4 =>
Out.ok s4
def m_law_code (drawn1 : List (S × (List Int × Int))) : Out (List Int) :=
(Out.ok [(82 : Int), ((drawn1).length : Int)]).bind fun found2 =>
(Out.fold (σ := List Int) (fun s3 (x5 : S) =>
(Out.get (dget drawn1 x5)).bind fun x7 =>
(Out.ok x7.1).bind fun marks_here8 =>
(Out.ok x7.2).bind fun error9 =>
(Out.guard (x5.1.length ≤ LIM)).bind fun _ =>
(Out.guard ((s3).length + ([(x5.1.length : Int)]).length ≤ LIM)).bind fun _ =>
(Out.guard ((chrs x5).length ≤ LIM)).bind fun _ =>
(Out.compS (fun (s14 : Unit) (x12 : Chr) =>
(Out.get (zfind z_abcdefghijklmnopqrst x12)).bind fun x16 =>
Out.ok (some ((x16 : Int) + (1 : Int)), ())) (chrs x5) [] ()).bind fun l15 =>
(Out.guard ((s3 ++ [(x5.1.length : Int)]).length + (l15.1).length ≤ LIM)).bind fun _ =>
(Out.ok ((s3 ++ [(x5.1.length : Int)]) ++ l15.1)).bind fun found18 =>
(Out.guard ((found18).length + ([error9, ((marks_here8).length : Int) - (2 : Int)]).length ≤ LIM)).bind fun _ =>
(Out.ok (found18 ++ [error9, ((marks_here8).length : Int) - (2 : Int)])).bind fun found20 =>
(Out.guard (RG ((marks_here8).length : Int))).bind fun _ =>
(Out.fold (σ := List Int) (fun s21 (x23 : Int) =>
(Out.get (pix marks_here8 x23)).bind fun x25 =>
(Out.get (pix marks_here8 (x23 - (1 : Int)))).bind fun x26 =>
(Out.ok (x25 - x26)).bind fun gap27 =>
(Out.guard ((s21).length + ([gap27 / (256 : Int), gap27 % (256 : Int)]).length ≤ LIM)).bind fun _ =>
(Out.ok (s21 ++ [gap27 / (256 : Int), gap27 % (256 : Int)])).bind fun found29 =>
Out.ok found29) (rgI (1 : Int) ((marks_here8).length : Int)) found20).bind fun s22 =>
Out.ok s22) (drawn1.map (·.1)) found2).bind fun s4 =>
Out.ok s4
def m_law_seen (values1 : List Int) : Out (Int ⊕ Rak) :=
Out.tryA ((m_decode_rack values1).bind fun r2 =>
Out.ok (Sum.inr r2 : Int ⊕ Rak)) <|
fun x => if x.n = 21 then (xfI "offset" x.fs).bind fun f_offset => (Out.ok (Sum.inl f_offset : Int ⊕ Rak)).okv else none
def m_law (script1 : List Int) : Out (Bool) :=
(Out.guard ((script1).length ≤ 63)).bind fun _ =>
(Out.loop (σ := Bh) (ρ := (Bool × Bh)) (fun s3 (x5 : Int) =>
(m_law_next (3 : Int) s3).bind fun r6 =>
(Out.ok [z_a, z_ab, z_ash, z_b, z_bay, z_z]).bind fun names7 =>
(Out.ok [(82 : Int), (2 : Int) + r6.1]).bind fun found8 =>
(Out.ok (none : Option (Int))).bind fun wrong9 =>
(Out.ok z_).bind fun last10 =>
(Out.ok ([] : List (S × Rul))).bind fun table11 =>
(Out.get (pix found8 (1 : Int))).bind fun x15 =>
(Out.guard (RG x15)).bind fun _ =>
(Out.fold (σ := (Option (Int)) × (List Int) × S × (List (S × Rul)) × Bh) (fun s12 (x14 : Int) =>
(m_law_next (3 : Int) s12.2.2.2.2).bind fun r17 =>
(Out.get (pix names7 (if (x14 + r17.1) < (5 : Int) then x14 + r17.1 else (5 : Int)))).bind fun x18 =>
(m_law_marks (4 : Int) (9 : Int) r17.2).bind fun r19 =>
(Out.ok x18).bind fun name20 =>
(Out.ok r19.1).bind fun marks_here21 =>
(Out.ok (if (((s12.1).isNone) && (leC eZ name20 s12.2.2.1)) = true then some ((s12.2.1).length : Int) else s12.1)).bind fun wrong22 =>
(m_law_code (dmk [(name20, (marks_here21, x14))])).bind fun r23 =>
(Out.guard ((s12.2.1).length + (pcut r23 (some (2 : Int)) none).length ≤ LIM)).bind fun _ =>
(Out.ok (s12.2.1 ++ (pcut r23 (some (2 : Int)) none))).bind fun found25 =>
(Out.ok name20).bind fun last26 =>
(mk_Ruler marks_here21 x14).bind fun r27 =>
(Out.guard ((s12.2.2.2.1).length < LIM)).bind fun _ =>
(Out.ok (dput s12.2.2.2.1 name20 r27)).bind fun table29 =>
Out.ok (wrong22, found25, last26, table29, r19.2)) (rgI 0 x15) (wrong9, found8, last10, table11, r6.2)).bind fun s13 =>
(if (!(s13.1).isNone) = true then ((Out.get (s13.1)).bind fun y31 =>
Out.ok (Sum.inl y31 : Int ⊕ Rak)) else ((mk_Rack s13.2.2.2.1).bind fun r32 =>
Out.ok (Sum.inr r32 : Int ⊕ Rak))).bind fun i30 =>
(m_law_sum s13.2.1).bind fun r33 =>
(Out.guard ((s13.2.1).length + ([r33]).length ≤ LIM)).bind fun _ =>
(m_law_seen (s13.2.1 ++ [r33])).bind fun r35 =>
((Out.neSi (fun a b => (m_Rack___eq a b).nox) r35 i30).nox).bind fun r36 =>
if (r36 || (!decide (r35.isLeft = i30.isLeft))) = true then (
Out.ok (.rt (false, s13.2.2.2.2)))
else (
(if ((s13.1).isNone) = true then ((Out.get (i30.getRight?)).bind fun y38 =>
(m_encode_rack y38).bind fun r39 =>
(m_law_sum s13.2.1).bind fun r40 =>
(Out.guard ((s13.2.1).length + ([r40]).length ≤ LIM)).bind fun _ =>
Out.ok (!decide (r39 = (s13.2.1 ++ [r40])))) else Out.ok false).bind fun c37 =>
if c37 = true then (
Out.ok (.rt (false, s13.2.2.2.2)))
else (
Out.ok (.nx s13.2.2.2.2)))) (rgI 0 (4 : Int)) (mixT m_law_mix script1 (91 : Int))).bind fun t => match t with
| .nx s4 => (
Out.ok true)
| .rt v => Out.ok v.1
structure RulOk (r : Rul) : Prop where
  lt : r.marks.Pairwise (· < ·)
  hd : r.marks[0]? = some 0
  lo : 2 ≤ r.marks.length
  hi : r.marks.length ≤ 12
  le : ∀ m, m ∈ r.marks → m ≤ 300
  e0 : 0 ≤ r.error
  e9 : r.error ≤ 9
theorem isnum_iff {v a b : Int} : m_is_number v a b = true ↔ a ≤ v ∧ v ≤ b := by unfold m_is_number; simp
theorem isnum_t {v a b : Int} (h1 : a ≤ v) (h2 : v ≤ b) : m_is_number v a b = true := isnum_iff.mpr ⟨h1, h2⟩
theorem pairwise_get {xs : List Int} (h : xs.Pairwise (· < ·)) {i j : Nat} {x y : Int} (hx : xs[i]? = some x) (hy : xs[j]? = some y) (hij : i < j) : x < y := by
  obtain ⟨h1, rfl⟩ := List.getElem?_eq_some_iff.mp hx
  obtain ⟨h2, rfl⟩ := List.getElem?_eq_some_iff.mp hy
  exact List.pairwise_iff_getElem.mp h i j h1 h2 hij
theorem RulOk.nn {r : Rul} (h : RulOk r) {m : Int} (hm : m ∈ r.marks) : 0 ≤ m := by
  obtain ⟨i, hi, rfl⟩ := List.getElem_of_mem hm
  rcases Nat.eq_zero_or_pos i with z | z
  · subst z
    have := h.hd
    rw [List.getElem?_eq_getElem hi] at this
    have := Option.some.inj this
    omega
  · have := pairwise_get h.lt h.hd (List.getElem?_eq_getElem hi) z
    omega
theorem mk_Ruler_ok {ms : List Int} {e : Int} (h : RulOk ⟨e, ms⟩) : mk_Ruler ms e = .ok ⟨e, ms⟩ := by
  apply Out.yes.eq
  unfold mk_Ruler
  have hlo := h.lo
  have hhi := h.hi
  have he0 := h.e0
  have he9 := h.e9
  dsimp only at hlo hhi he0 he9
  refine Out.yes_bind (R := fun _ => True) (Out.fold_yes (fun _ _ => True) _ _ trivial fun pre x post s hp _ => ?_) fun _ _ => ?_
  · obtain ⟨i, hi, h1, h2, _⟩ := penum_split hp
    have hlt := (List.getElem?_eq_some_iff.mp h2).1
    rcases Nat.eq_zero_or_pos i with z | z
    · subst z
      have hx0 : x.2 = 0 := by have := h.hd; dsimp only at this; rw [h2] at this; exact Option.some.inj this
      rw [if_pos (by rw [h1]; simp), Out.bind_ok]
      refine Out.yes_ifF ?_ (Out.yes_ok trivial)
      rw [h1, hx0]; rfl
    · rw [if_neg (by rw [h1]; simp; omega)]
      have hprev : ms[i - 1]? = some (ms[i - 1]'(by omega)) := List.getElem?_eq_getElem (by omega)
      rw [Out.bind_get (a := ms[i - 1]'(by omega)) (by rw [h1, show ((i : Nat) : Int) - 1 = ((i - 1 : Nat) : Int) by omega]; exact pix_nat hprev), Out.bind_ok]
      refine Out.yes_ifF ?_ (Out.yes_ok trivial)
      have hl := pairwise_get h.lt hprev h2 (by omega)
      have h3 := h.le x.2 (List.mem_of_getElem? h2)
      rw [if_neg (by rw [h1]; simp; omega), isnum_t (by omega) h3]
      simp; omega
  · refine Out.yes_ifF (by simp; omega) (Out.yes_ifF ?_ (Out.yes_ok rfl))
    rw [isnum_t he0 he9]; rfl
structure RakOk (r : Rak) : Prop where
  ru : ∀ p, p ∈ r.held → RulOk p.2
  nd : (keys r.held).Nodup
  ne : r.held ≠ []
  le : r.held.length ≤ 6
  so : (keys r.held).Pairwise fun a b => leS a b = true
/-- a rack out of a dict of rulers -/
theorem mk_Rack_ok {rs : List (S × Rul)} (hn : ∀ p, p ∈ rs → m_is_name p.1 = .ok true) (nd : (keys rs).Nodup) (ne : rs ≠ []) (le : rs.length ≤ 6) (ru : ∀ p, p ∈ rs → RulOk p.2) :
    (mk_Rack rs).yes fun r => RakOk r ∧ keys r.held = ssort (keys rs) ∧ (∀ p, p ∈ r.held ↔ p ∈ rs) ∧ r.held.length = rs.length := by
  unfold mk_Rack
  refine Out.yes_bind (R := fun _ => True) (Out.fold_yes (fun _ _ => True) _ _ trivial fun pre x post s hp _ => ?_) fun _ _ => ?_
  · obtain ⟨i, hi, h1, h2, _⟩ := penum_split hp
    have hlt := (List.getElem?_eq_some_iff.mp h2).1
    rw [List.length_map] at hlt
    have hx := List.mem_of_getElem? h2
    rw [List.mem_map] at hx
    obtain ⟨p, hp1, hp2⟩ := hx
    rw [if_neg (by rw [h1]; simp; omega), ← hp2, hn p hp1, Out.bind_ok, Out.bind_ok]
    exact Out.yes_ifF rfl (Out.yes_ok trivial)
  · refine Out.yes_ifF (by cases rs with | nil => exact absurd rfl ne | cons a b => rfl) (Out.yes_guard (by omega) ?_)
    have hperm : (ssort (keys rs)).Perm (keys rs) := ssort_perm _
    let val : S → Rul := fun k => (dget rs k).getD ⟨0, []⟩
    rw [Out.compS_unit (o := fun k => some (k, val k)) _ _ fun k hk => by
      obtain ⟨v, hv⟩ := dget_some (hperm.mem_iff.mp hk)
      rw [Out.bind_get hv]
      show _ = Out.ok (some (k, (dget rs k).getD ⟨0, []⟩), ())
      rw [hv]; rfl]
    rw [Out.bind_ok, List.nil_append]
    have hfm : (ssort (keys rs)).filterMap (fun k => some (k, val k)) = (ssort (keys rs)).map fun k => (k, val k) := by rw [← List.filterMap_eq_map]; rfl
    have hk : keys ((ssort (keys rs)).map fun k => (k, val k)) = ssort (keys rs) := by
      unfold keys; rw [List.map_map]; exact List.map_id _
    have hnd : (keys ((ssort (keys rs)).map fun k => (k, val k))).Nodup := by rw [hk]; exact hperm.nodup_iff.mpr nd
    dsimp only
    rw [hfm, dmk_of_nodup hnd]
    have hmem : ∀ p, p ∈ ((ssort (keys rs)).map fun k => (k, val k)) ↔ p ∈ rs := by
      intro p
      rw [List.mem_map]
      constructor
      · rintro ⟨k, hk1, rfl⟩
        obtain ⟨v, hv⟩ := dget_some (hperm.mem_iff.mp hk1)
        show (k, (dget rs k).getD ⟨0, []⟩) ∈ rs
        rw [hv]; exact dget_mem hv
      · intro hp
        refine ⟨p.1, hperm.mem_iff.mpr (List.mem_map.mpr ⟨p, hp, rfl⟩), ?_⟩
        show (p.1, (dget rs p.1).getD ⟨0, []⟩) = p
        rw [dget_of_mem nd (show (p.1, p.2) ∈ rs from hp)]; rfl
    have hlen : ((ssort (keys rs)).map fun k => (k, val k)).length = rs.length := by
      rw [List.length_map, hperm.length_eq]; unfold keys; rw [List.length_map]
    refine Out.yes_ok ⟨⟨fun p hp => ru p ((hmem p).mp hp), hnd, ?_, by rw [hlen]; exact le, by dsimp only; rw [hk]; exact ssort_sorted _⟩, hk, hmem, hlen⟩
    intro z
    dsimp only at z
    rw [z] at hlen
    cases rs with
    | nil => exact ne rfl
    | cons a b => simp at hlen
theorem item_ok {r : Rak} {n : S} {u : Rul} (h : dget r.held n = some u) : m_Rack___getitem r n = .ok u := by
  unfold m_Rack___getitem
  have : n ∈ keys r.held := by apply Classical.byContradiction; intro z; rw [dget_none.mpr z] at h; cases h
  rw [dhas_iff.mpr this, if_neg (by simp), Out.bind_get h]
theorem ixN_pos {n : Nat} {i : Int} (h0 : 0 ≤ i) (h1 : i < (n : Int)) : L2.ixN n i = some i.toNat := by
  unfold L2.ixN
  rw [if_pos h0, if_pos (by omega)]
theorem next_yes {m : Int} (h0 : 0 < m) (h1 : m < 2 ^ 200) (bx : Bh) : (m_law_next m bx).yes fun r => 0 ≤ r.1 ∧ r.1 < m := by
  obtain ⟨⟨ns, st, ix⟩, hl⟩ := bx
  unfold m_law_next
  dsimp only at hl ⊢
  refine Out.yes_guard ⟨h0, h1⟩ ?_
  have hr : ∀ a : Int, 0 ≤ a % m ∧ a % m < m := fun a => ⟨Int.emod_nonneg _ (by omega), Int.emod_lt_of_pos _ h0⟩
  by_cases hn : ns.length ≤ 1
  · rw [if_neg (by omega)]
    obtain ⟨x, hx, hm⟩ := pix_some (xs := ns ++ [0]) (i := ix % 1) (by omega) (by rw [List.length_append, List.length_singleton]; omega)
    refine Out.yes_get hx ?_
    by_cases hc : 1000000000000000000 ≤ x
    · rw [if_pos hc]
      have h1 : ns.length = 1 := by
        rcases Nat.eq_zero_or_pos ns.length with z | z
        · have : ns = [] := List.eq_nil_of_length_eq_zero z
          subst this
          simp at hm; omega
        · omega
      rw [h1]
      refine Out.yes_get (ixN_pos (n := 1) (by omega) (by omega)) (Out.yes_guard (by omega) (Out.yes_ok (hr _)))
    · rw [if_neg hc]; exact Out.yes_ok (hr _)
  · have hp : (0 : Int) < ns.length := by omega
    rw [if_pos (by omega)]
    have i0 := Int.emod_nonneg ix (show (ns.length : Int) ≠ 0 by omega)
    have i1 := Int.emod_lt_of_pos ix hp
    obtain ⟨x, hx, hm⟩ := pix_some (xs := ns ++ [0]) i0 (by rw [List.length_append]; simp; omega)
    refine Out.yes_get hx ?_
    by_cases hc : 1000000000000000000 ≤ x
    · rw [if_pos hc]
      exact Out.yes_get (ixN_pos i0 i1) (Out.yes_guard hp (Out.yes_ok (hr _)))
    · rw [if_neg hc]; exact Out.yes_ok (hr _)
/-- marks that grow -/
structure Grown (n : Int) (wide : Int) (ms : List Int) : Prop where
  lt : ms.Pairwise (· < ·)
  hd : ms[0]? = some 0
  len : (ms.length : Int) = n + 1
  le : ∀ m, m ∈ ms → m ≤ n * wide
theorem grow_yes {n wide : Int} (hn : 0 ≤ n) (hn2 : n ≤ 1000) (h1 : 1 ≤ wide) (h2 : wide < 2 ^ 200) (bx : Bh) : (Out.fold (σ := (List Int) × Bh) (fun s3 (x5 : Int) =>
    (Out.get (pix s3.1 (-(1 : Int)))).bind fun x9 =>
    (m_law_next wide s3.2).bind fun r10 =>
    (Out.guard ((s3.1).length < LIM)).bind fun _ =>
    (Out.ok (s3.1 ++ [(x9 + (1 : Int)) + r10.1])).bind fun found12 =>
    Out.ok (found12, r10.2)) (rgI 0 n) ([(0 : Int)], bx)).yes fun s => Grown n wide s.1 := by
  refine Out.yes.mono (Out.fold_yes (fun (pre : List Int) (s : List Int × Bh) => ∃ z, s.1.getLast? = some z ∧ z ≤ (pre.length : Int) * wide ∧ s.1.Pairwise (· < ·) ∧ s.1[0]? = some 0 ∧ s.1.length = pre.length + 1 ∧ ∀ m, m ∈ s.1 → m ≤ z) _ _ ⟨0, rfl, by simp, by simp, rfl, rfl, fun m hm => by simp at hm; omega⟩ fun pre x post s hp hI => ?_) fun s hI => ?_
  · obtain ⟨z, z1, z2, z3, z4, z5, z6⟩ := hI
    have hpl : pre.length < 1000 := by
      have := congrArg List.length hp
      rw [rgI_length, List.length_append, List.length_cons] at this
      omega
    refine Out.yes_get (pix_last z1) (Out.yes_bind (next_yes (by omega) h2 _) fun r hr => Out.yes_guard (by show _ < 16777216; omega) (Out.yes_let (Out.yes_ok ⟨z + 1 + r.1, by simp, ?_, ?_, ?_, by simp [z5], ?_⟩)))
    · rw [List.length_append, List.length_singleton, show ((pre.length + 1 : Nat) : Int) = (pre.length : Int) + 1 by omega, Int.add_mul]; omega
    · rw [List.pairwise_append]
      refine ⟨z3, by simp, fun a ha b hb => ?_⟩
      rw [List.mem_singleton] at hb
      have := z6 a ha
      omega
    · rw [List.getElem?_append_left (by omega)]; exact z4
    · intro m hm
      rcases List.mem_append.mp hm with hm | hm
      · have := z6 m hm; omega
      · rw [List.mem_singleton] at hm; omega
  · obtain ⟨z, z1, z2, z3, z4, z5, z6⟩ := hI
    have hl : ((rgI 0 n).length : Int) = n := by rw [rgI_length]; omega
    exact ⟨z3, z4, by rw [z5]; omega, fun m hm => by have := z6 m hm; rw [hl] at z2; omega⟩
theorem Grown.ok {n wide e : Int} {ms : List Int} (h : Grown n wide ms) (h1 : 1 ≤ n) (h2 : n ≤ 11) (h3 : n * wide ≤ 300) (e0 : 0 ≤ e) (e9 : e ≤ 9) : RulOk ⟨e, ms⟩ :=
  ⟨h.lt, h.hd, by have := h.len; show 2 ≤ ms.length; omega, by have := h.len; show ms.length ≤ 12; omega, fun m hm => by have := h.le m hm; omega, e0, e9⟩
theorem marks2_yes {most wide : Int} (h1 : 2 ≤ most) (h2 : most ≤ 12) (h3 : 1 ≤ wide) (h4 : wide ≤ 300) (bx : Bh) : (m_law_marks most wide bx).yes fun r => ∃ n, 1 ≤ n ∧ n ≤ most - 1 ∧ Grown n wide r.1 := by
  unfold m_law_marks
  refine Out.yes_let (Out.yes_bind (next_yes (by omega) (by omega) _) fun r7 h7 => Out.yes_guard (by constructor <;> omega) (Out.yes_bind (grow_yes (n := 1 + r7.1) (by omega) (by omega) h3 (by omega) _) fun s hs => Out.yes_ok ⟨1 + r7.1, by omega, by omega, hs⟩))
def lets (n : S) : List Int := (chrs n).filterMap fun c => (zfind z_abcdefghijklmnopqrst c).map fun x => (x : Int) + 1
def spellF (z : S) (l : Int) : S := match pix (chrs z_abcdefghijklmnopqrst) (l - 1) with
  | some c => zcat z (oneS c)
  | none => z
structure NmOk (n : S) : Prop where
  all : ∀ c, c ∈ chrs n → (zfind z_abcdefghijklmnopqrst c).isSome = true
  len : (lets n).length = n.1.length
  lo : 1 ≤ n.1.length
  hi : n.1.length ≤ 8
  rg : ∀ l, l ∈ lets n → 1 ≤ l ∧ l ≤ 26
  sp : (lets n).foldl spellF z_ = n
  nm : m_is_name n = .ok true
def gapsL : List Int → List Int
  | a :: b :: r => (b - a) / 256 :: (b - a) % 256 :: gapsL (b :: r)
  | _ => []
theorem gapsL_snoc : ∀ (xs : List Int) (a b : Int), gapsL (xs ++ [a, b]) = gapsL (xs ++ [a]) ++ [(b - a) / 256, (b - a) % 256]
  | [], a, b => rfl
  | [x], a, b => rfl
  | x :: y :: r, a, b => by
    show (y - x) / 256 :: (y - x) % 256 :: gapsL ((y :: r) ++ [a, b]) = _
    rw [gapsL_snoc (y :: r) a b]; rfl
theorem take_two {α : Type} {ms : List α} {k : Nat} {a b : α} (ha : ms[k]? = some a) (hb : ms[k + 1]? = some b) : ms.take (k + 2) = ms.take k ++ [a, b] ∧ ms.take (k + 1) = ms.take k ++ [a] := by
  obtain ⟨h1, h2⟩ := List.getElem?_eq_some_iff.mp ha
  obtain ⟨h3, h4⟩ := List.getElem?_eq_some_iff.mp hb
  constructor
  · rw [List.take_succ_eq_append_getElem h3, List.take_succ_eq_append_getElem h1, h2, h4, List.append_assoc]; rfl
  · rw [List.take_succ_eq_append_getElem h1, h2]
theorem gapsL_take {ms : List Int} {k : Nat} {a b : Int} (ha : ms[k]? = some a) (hb : ms[k + 1]? = some b) : gapsL (ms.take (k + 2)) = gapsL (ms.take (k + 1)) ++ [(b - a) / 256, (b - a) % 256] := by
  obtain ⟨h1, h2⟩ := take_two ha hb
  rw [h1, h2, gapsL_snoc]
theorem gapsL_len : ∀ ms : List Int, (gapsL ms).length = 2 * (ms.length - 1)
  | [] => rfl
  | [_] => rfl
  | a :: b :: r => by
    unfold gapsL
    rw [List.length_cons, List.length_cons, gapsL_len (b :: r)]
    simp only [List.length_cons]; omega
theorem gapsL_get : ∀ {ms : List Int} {k : Nat} {a b : Int}, ms[k]? = some a → ms[k + 1]? = some b → (gapsL ms)[2 * k]? = some ((b - a) / 256) ∧ (gapsL ms)[2 * k + 1]? = some ((b - a) % 256)
  | [], k, a, b, h, _ => by simp at h
  | [x], k, a, b, _, h => by simp at h
  | x :: y :: r, 0, a, b, h1, h2 => by
    have e1 : x = a := by simpa using h1
    have e2 : y = b := by simpa using h2
    subst e1 e2; exact ⟨rfl, rfl⟩
  | x :: y :: r, k + 1, a, b, h1, h2 => by
    have := gapsL_get (ms := y :: r) (k := k) (by simpa using h1) (by simpa using h2)
    unfold gapsL
    rw [show 2 * (k + 1) = 2 * k + 1 + 1 by omega, show 2 * k + 1 + 1 + 1 = (2 * k + 1) + 1 + 1 by omega]
    simpa using this
abbrev CRow := S × Int × List Int
def ruCode (p : CRow) : List Int := ((p.1.1.length : Nat) : Int) :: (lets p.1 ++ (p.2.1 :: ((p.2.2.length : Int) - 2) :: gapsL p.2.2))
structure RowOk (p : CRow) : Prop where
  nm : NmOk p.1
  ru : RulOk ⟨p.2.1, p.2.2⟩
theorem ruCode_len {p : CRow} (h : RowOk p) : (ruCode p).length = 1 + p.1.1.length + 2 + 2 * (p.2.2.length - 1) ∧ (ruCode p).length ≤ 33 := by
  have e : (ruCode p).length = 1 + p.1.1.length + 2 + 2 * (p.2.2.length - 1) := by
    unfold ruCode
    rw [List.length_cons, List.length_append, h.nm.len, List.length_cons, List.length_cons, gapsL_len]; omega
  have := h.nm.hi
  have := h.ru.hi
  dsimp only at this
  exact ⟨e, by omega⟩
theorem chrs_len' (n : S) : (chrs n).length = n.1.length := chrs_len n
theorem rgI_at {a b : Int} {pre post : List Int} {x : Int} (h : rgI a b = pre ++ x :: post) : x = a + pre.length ∧ x < b := by
  obtain ⟨h1, h2⟩ := rgI_get (a := a) (b := b) (i := pre.length) (x := x) (by rw [h]; simp)
  exact ⟨h2, by omega⟩
theorem lets_comp {n : S} (h : ∀ c, c ∈ chrs n → (zfind z_abcdefghijklmnopqrst c).isSome = true) : Out.compS (fun (s6 : Unit) (x4 : Chr) =>
    (Out.get (zfind z_abcdefghijklmnopqrst x4)).bind fun x8 => Out.ok (some ((x8 : Int) + (1 : Int)), ())) (chrs n) [] () = .ok (lets n, ()) := by
  rw [Out.compS_unit (o := fun c => (zfind z_abcdefghijklmnopqrst c).map fun x => (x : Int) + 1) _ _ fun c hc => by
    obtain ⟨v, hv⟩ := Option.isSome_iff_exists.mp (h c hc)
    rw [Out.bind_get hv, hv]; rfl]
  rfl
theorem ruler_codes_ok {n : S} {e : Int} {ms : List Int} (h : RowOk (n, e, ms)) : m_ruler_codes n ⟨e, ms⟩ = .ok (ruCode (n, e, ms)) := by
  obtain ⟨hn, hr⟩ := h
  have l1 := hn.hi
  have l2 := hr.hi
  have l3 := hr.lo
  have l4 := hn.len
  dsimp only at l1 l2 l3 l4
  apply Out.yes.eq
  unfold m_ruler_codes
  refine Out.yes_guard (by show _ ≤ 16777216; omega) (Out.yes_guard (by rw [chrs_len']; show _ ≤ 16777216; omega) ?_)
  rw [lets_comp hn.all, Out.bind_ok]
  dsimp only
  refine Out.yes_guard (by rw [List.length_singleton, l4]; show _ ≤ 16777216; omega) (Out.yes_let (Out.yes_guard (by show 0 ≤ (ms.length : Int) ∧ _; unfold m_Ruler___len; dsimp only; omega) ?_))
  refine Out.yes_guard (by rw [List.length_append, List.length_singleton, l4]; show 1 + _ + 2 ≤ 16777216; omega) (Out.yes_let (Out.yes_guard (by show ms.length ≤ 16777216; omega) ?_))
  have hp : pcut ms (some (1 : Int)) none = ms.drop 1 := pcut_from ms 1
  have hz : ∀ {pre post : List (Int × Int)} {x : Int × Int}, (m_Ruler_marks ⟨e, ms⟩).zip (pcut (m_Ruler_marks ⟨e, ms⟩) (some (1 : Int)) none) = pre ++ x :: post → ms[pre.length]? = some x.1 ∧ ms[pre.length + 1]? = some x.2 := by
    intro pre post x hx
    have hx : ms.zip (pcut ms (some (1 : Int)) none) = pre ++ x :: post := hx
    rw [hp] at hx
    have := congrArg (fun l : List (Int × Int) => l[pre.length]?) hx
    rw [List.getElem?_append_right (Nat.le_refl _), Nat.sub_self, List.getElem?_cons_zero, List.getElem?_zip_eq_some] at this
    rw [List.getElem?_drop, show 1 + pre.length = pre.length + 1 by omega] at this
    exact this
  refine Out.yes_bind (Out.fold_yes (fun (pre : List (Int × Int)) (s : List Int) => s = ([((n.1.length : Nat) : Int)] ++ lets n ++ [e, (ms.length : Int) - 2]) ++ gapsL (ms.take (pre.length + 1))) _ _ ?_ fun pre x post s hx hs => ?_) fun s hs => ?_
  · have : gapsL (ms.take 1) = [] := by cases ms <;> rfl
    show _ = _ ++ gapsL (ms.take 1)
    rw [this, List.append_nil]; rfl
  · obtain ⟨z1, z2⟩ := hz hx
    have hl := (List.getElem?_eq_some_iff.mp z2).1
    refine Out.yes_guard (by omega) (Out.yes_guard ?_ (Out.yes_let (Out.yes_ok ?_)))
    · rw [hs, List.length_append, gapsL_len, List.length_append, List.length_append, l4, List.length_take]
      show 1 + _ + 2 + _ + 2 ≤ 16777216
      omega
    · rw [hs, List.length_append, List.length_singleton, show pre.length + 1 + 1 = pre.length + 2 by omega, gapsL_take z1 z2, List.append_assoc]
  · refine Out.yes_ok ?_
    have hl : ((m_Ruler_marks ⟨e, ms⟩).zip (pcut (m_Ruler_marks ⟨e, ms⟩) (some (1 : Int)) none)).length = ms.length - 1 := by
      show (ms.zip (pcut ms (some (1 : Int)) none)).length = _
      rw [hp, List.length_zip, List.length_drop]; omega
    rw [hs, hl, show ms.length - 1 + 1 = ms.length by omega, List.take_length]
    unfold ruCode
    simp
/-- a drawn rack's rows -/
def rowOf (p : S × (List Int × Int)) : CRow := (p.1, p.2.2, p.2.1)
theorem law_code_ok {d : List (S × (List Int × Int))} (nd : (keys d).Nodup) (hl : d.length ≤ 6) (h : ∀ p, p ∈ d → RowOk (rowOf p)) : m_law_code d = .ok ([82, (d.length : Int)] ++ (d.map rowOf).flatMap ruCode) := by
  apply Out.yes.eq
  unfold m_law_code
  refine Out.yes_let ?_
  refine Out.yes_bind (Out.fold_yes (fun (pre : List S) (s : List Int) => s = [82, (d.length : Int)] ++ ((d.take pre.length).map rowOf).flatMap ruCode ∧ s.length ≤ 2 + 33 * pre.length) _ _ ⟨by simp, by simp⟩ fun pre x post s hx ⟨hs, hsl⟩ => ?_) fun s ⟨hs, _⟩ => ?_
  · have hx0 : (d.map (·.1))[pre.length]? = some x := by rw [hx]; simp
    rw [List.getElem?_map, Option.map_eq_some_iff] at hx0
    obtain ⟨⟨x', ms, e⟩, hx1, hx2⟩ := hx0
    dsimp only at hx2
    subst hx2
    have hxl := (List.getElem?_eq_some_iff.mp hx1).1
    have hro := h _ (List.mem_of_getElem? hx1)
    obtain ⟨hn, hr⟩ := id hro
    have l1 := hn.hi
    have l2 := hr.hi
    have l3 := hr.lo
    have l4 := hn.len
    dsimp only [rowOf] at l1 l2 l3 l4
    refine Out.yes_get (dget_of_mem nd (List.mem_of_getElem? hx1)) (Out.yes_let (Out.yes_let ?_))
    refine Out.yes_guard (by show _ ≤ 16777216; omega) (Out.yes_guard (by rw [List.length_singleton]; show _ ≤ 16777216; omega) (Out.yes_guard (by rw [chrs_len']; show _ ≤ 16777216; omega) ?_))
    have hall : ∀ c, c ∈ chrs x' → (zfind z_abcdefghijklmnopqrst c).isSome = true := hn.all
    rw [lets_comp hall, Out.bind_ok]
    dsimp only
    refine Out.yes_guard (by rw [List.length_append, List.length_singleton]; show _ + 1 + (lets x').length ≤ 16777216; omega) (Out.yes_let ?_)
    refine Out.yes_guard (by rw [List.length_append, List.length_append, List.length_singleton]; show _ + 1 + (lets x').length + 2 ≤ 16777216; omega) (Out.yes_let (Out.yes_guard ⟨by omega, by omega⟩ ?_))
    refine Out.yes_bind (Out.fold_yes (fun (pr : List Int) (u : List Int) => u = (s ++ [((x'.1.length : Nat) : Int)] ++ lets x' ++ [e, (ms.length : Int) - 2]) ++ gapsL (ms.take (pr.length + 1))) _ _ ?_ fun pr y po u hy hu => ?_) fun u hu => ?_
    · have : gapsL (ms.take 1) = [] := by cases ms <;> rfl
      show _ = _ ++ gapsL (ms.take 1)
      rw [this, List.append_nil]
    · obtain ⟨y1, y2⟩ := rgI_at hy
      have ha : ms[pr.length]? = some (ms[pr.length]'(by omega)) := List.getElem?_eq_getElem (by omega)
      have hb : ms[pr.length + 1]? = some (ms[pr.length + 1]'(by omega)) := List.getElem?_eq_getElem (by omega)
      refine Out.yes_get (by rw [y1, show (1 : Int) + pr.length = ((pr.length + 1 : Nat) : Int) by omega]; exact pix_nat hb) (Out.yes_get (by rw [y1, show (1 : Int) + pr.length - 1 = ((pr.length : Nat) : Int) by omega]; exact pix_nat ha) (Out.yes_let (Out.yes_guard ?_ (Out.yes_let (Out.yes_ok ?_)))))
      · rw [hu, List.length_append, gapsL_len, List.length_append, List.length_append, List.length_append, l4, List.length_take]
        show _ + 1 + _ + 2 + _ + 2 ≤ 16777216
        omega
      · rw [hu, List.length_append, List.length_singleton, show pr.length + 1 + 1 = pr.length + 2 by omega, gapsL_take ha hb, List.append_assoc]
    · have hlen : (rgI (1 : Int) (ms.length : Int)).length + 1 = ms.length := by rw [rgI_length]; omega
      rw [hlen, List.take_length] at hu
      have e1 : u = s ++ ruCode (rowOf (x', ms, e)) := by rw [hu]; unfold ruCode rowOf; simp
      refine Out.yes_ok ⟨?_, ?_⟩
      · rw [e1, hs, List.length_append, List.length_singleton, List.take_succ_eq_append_getElem hxl, (List.getElem?_eq_some_iff.mp hx1).2, List.map_append, List.flatMap_append, List.append_assoc]; simp
      · have := (ruCode_len hro).2
        rw [e1, List.length_append, List.length_append, List.length_singleton]; omega
  · refine Out.yes_ok ?_
    rw [hs]
    have : (d.map (·.1)).length = d.length := List.length_map ..
    rw [this, List.take_length]
def sumC (vs : List Int) : Int := vs.foldl (fun a v => (a * 11 + v) % 233) 4
theorem sum_fold (vs : List Int) : Out.fold (σ := Int) (fun s3 (x5 : Int) => (Out.ok (((s3 * (11 : Int)) + x5) % (233 : Int))).bind fun found7 => Out.ok found7) vs 4 = .ok (sumC vs) :=
  Out.fold_plain (g := fun a v => (a * 11 + v) % 233) vs 4 fun s x _ => rfl
theorem checksum_ok (vs : List Int) : m_checksum vs = .ok (sumC vs) := by
  unfold m_checksum
  rw [Out.bind_ok, sum_fold vs, Out.bind_ok]
theorem law_sum_ok (vs : List Int) : m_law_sum vs = .ok (sumC vs) := by
  unfold m_law_sum
  rw [Out.bind_ok, sum_fold vs, Out.bind_ok]
/-- the list L stands in cs from k on -/
def AtC (cs : List Int) (k : Nat) (L : List Int) : Prop := ∀ j x, L[j]? = some x → cs[k + j]? = some x
theorem AtC.hd {cs : List Int} {k : Nat} {x : Int} {L : List Int} (h : AtC cs k (x :: L)) : cs[k]? = some x := h 0 x rfl
theorem AtC.tl {cs : List Int} {k : Nat} {x : Int} {L : List Int} (h : AtC cs k (x :: L)) : AtC cs (k + 1) L := fun j y e => by
  rw [show k + 1 + j = k + (j + 1) by omega]; exact h (j + 1) y e
theorem AtC.left {cs : List Int} {k : Nat} {L M : List Int} (h : AtC cs k (L ++ M)) : AtC cs k L := fun j x e => h j x (by rw [List.getElem?_append_left (List.getElem?_eq_some_iff.mp e).1]; exact e)
theorem AtC.right {cs : List Int} {k : Nat} {L M : List Int} (h : AtC cs k (L ++ M)) : AtC cs (k + L.length) M := fun j x e => by
  rw [Nat.add_assoc]
  exact h (L.length + j) x (by rw [List.getElem?_append_right (Nat.le_add_right _ _), Nat.add_sub_cancel_left]; exact e)
theorem AtC.self (cs : List Int) : AtC cs 0 cs := fun j x e => by rw [Nat.zero_add]; exact e
theorem take_ok {cs : List Int} {k : Nat} {x lo hi : Int} (h : cs[k]? = some x) (h1 : lo ≤ x) (h2 : x ≤ hi) : m_Reader_take ⟨cs, (k : Int)⟩ lo hi = .ok (x, ⟨cs, ((k + 1 : Nat) : Int)⟩) := by
  have hl := (List.getElem?_eq_some_iff.mp h).1
  unfold m_Reader_take
  dsimp only
  rw [if_neg (by simp; omega), Out.bind_get (pix_nat h), Out.bind_ok, isnum_t h1 h2, if_neg (by simp), show (k : Int) + 1 - 1 = (k : Int) by omega, Out.bind_get (pix_nat h)]
  rfl
theorem take_marks_ok {cs : List Int} {k : Nat} {e : Int} {ms : List Int} (hr : RulOk ⟨e, ms⟩) (h : AtC cs k (((ms.length : Int) - 2) :: gapsL ms)) : m_Reader_take_marks ⟨cs, (k : Int)⟩ = .ok (ms, ⟨cs, ((k + 1 + 2 * (ms.length - 1) : Nat) : Int)⟩) := by
  have l2 := hr.hi
  have l3 := hr.lo
  have l4 := hr.hd
  dsimp only at l2 l3 l4
  apply Out.yes.eq
  unfold m_Reader_take_marks
  refine Out.yes_let ?_
  rw [take_ok h.hd (by omega) (by omega), Out.bind_ok]
  dsimp only
  refine Out.yes_guard ⟨by omega, by omega⟩ ?_
  have hg := h.tl
  refine Out.yes_bind (Out.fold_yes (fun (pre : List Int) (s : List Int × List Int × Int) => s = (ms.take (pre.length + 1), cs, ((k + 1 + 2 * pre.length : Nat) : Int))) _ _ ?_ fun pre x post s hx hs => ?_) fun s hs => ?_
  · cases ms with
    | nil => simp at l3
    | cons a r => have : a = 0 := by simpa using l4
                  subst this; rfl
  · obtain ⟨y1, y2⟩ := rgI_at hx
    subst hs
    have ha : ms[pre.length]? = some (ms[pre.length]'(by omega)) := List.getElem?_eq_getElem (by omega)
    have hb : ms[pre.length + 1]? = some (ms[pre.length + 1]'(by omega)) := List.getElem?_eq_getElem (by omega)
    obtain ⟨g1, g2⟩ := gapsL_get ha hb
    have hlt := pairwise_get hr.lt ha hb (by omega)
    have hnn := hr.nn (List.mem_of_getElem? ha)
    have hle := hr.le _ (List.mem_of_getElem? hb)
    obtain ⟨t1, t2⟩ := take_two ha hb
    generalize ms[pre.length]'(by omega) = a at *
    generalize ms[pre.length + 1]'(by omega) = b at *
    dsimp only
    rw [take_ok (hg _ _ g1) (by omega) (by omega), Out.bind_ok]
    dsimp only
    refine Out.yes_get (pix_last (x := a) (by rw [t2]; simp)) ?_
    rw [show k + 1 + 2 * pre.length + 1 = k + 1 + (2 * pre.length + 1) by omega, take_ok (hg _ _ g2) (by omega) (by omega), Out.bind_ok]
    refine Out.yes_guard (by rw [List.length_take]; show _ < 16777216; omega) (Out.yes_let (Out.yes_ok ?_))
    rw [List.length_append, List.length_singleton, show pre.length + 1 + 1 = pre.length + 2 by omega, t1, t2, List.append_assoc]
    have : a + (b - a) / 256 * 256 + (b - a) % 256 = b := by omega
    dsimp only
    rw [this]
    refine Prod.ext rfl (Prod.ext rfl ?_)
    show _ = ((k + 1 + 2 * (pre.length + 1) : Nat) : Int)
    show ((k + 1 + (2 * pre.length + 1) + 1 : Nat) : Int) = _
    omega
  · refine Out.yes_ok ?_
    have hlen : (rgI 0 ((ms.length : Int) - 2 + 1)).length = ms.length - 1 := by rw [rgI_length]; omega
    rw [hs, hlen, show ms.length - 1 + 1 = ms.length by omega, List.take_length]
theorem chrs_abc : (chrs z_abcdefghijklmnopqrst).length = 26 := by decide +kernel
theorem zcat_len (x y : S) : (zcat x y).1.length = x.1.length + y.1.length := by
  show (x.1 ++ y.1).cps.size = _
  exact Array.size_append
theorem bind_yes_eq {α β : Type} {m : Out α} {f : α → Out β} {a : α} {b : Out β} (h : m.yes (· = a)) (k : f a = b) : m.bind f = b := by rw [h.eq]; exact k
/-- the name, and what is raised where it does not ascend -/
theorem take_name_eq {cs : List Int} {k : Nat} {n last : S} (hn : NmOk n) (h : AtC cs k (((n.1.length : Nat) : Int) :: lets n)) :
    m_Reader_take_name ⟨cs, (k : Int)⟩ last = if leC eZ n last = true then Out.ex ⟨21, [("offset", eI (k : Int))]⟩ else .ok (n, ⟨cs, ((k + 1 + n.1.length : Nat) : Int)⟩) := by
  have l1 := hn.lo
  have l2 := hn.hi
  have l3 := hn.len
  unfold m_Reader_take_name
  rw [take_ok h.hd (by omega) (by omega), Out.bind_ok]
  dsimp only
  rw [Out.bind_guard ⟨by omega, by omega⟩]
  have hg := h.tl
  refine bind_yes_eq (a := (n, cs, ((k + 1 + n.1.length : Nat) : Int))) (Out.yes.mono (Out.fold_yes (fun (pre : List Int) (s : S × List Int × Int) => s = (((lets n).take pre.length).foldl spellF z_, cs, ((k + 1 + pre.length : Nat) : Int)) ∧ s.1.1.length ≤ pre.length) _ _ ⟨rfl, (show (z_ : S).1.length ≤ 0 by decide +kernel)⟩ fun pre x post s hx ⟨hs, hsl⟩ => ?_) fun s ⟨hs, _⟩ => ?_) rfl
  · obtain ⟨y1, y2⟩ := rgI_at hx
    subst hs
    dsimp only at hsl ⊢
    have ha : (lets n)[pre.length]? = some ((lets n)[pre.length]'(by omega)) := List.getElem?_eq_getElem (by omega)
    have hrg := hn.rg _ (List.mem_of_getElem? ha)
    have htk : (lets n).take (pre.length + 1) = (lets n).take pre.length ++ [(lets n)[pre.length]'(by omega)] := List.take_succ_eq_append_getElem (by omega)
    generalize (lets n)[pre.length]'(by omega) = l at *
    obtain ⟨c, hc, _⟩ := pix_some (xs := chrs z_abcdefghijklmnopqrst) (i := l - 1) (by omega) (by rw [chrs_abc]; omega)
    refine Out.yes_guard (by decide +kernel) ?_
    rw [show ((z_abcdefghijklmnopqrst.1.length : Nat) : Int) = 26 by decide +kernel, take_ok (hg _ _ ha) hrg.1 hrg.2, Out.bind_ok]
    refine Out.yes_guard (by decide +kernel) (Out.yes_get hc (Out.yes_guard ?_ (Out.yes_let (Out.yes_ok ⟨?_, ?_⟩))))
    · have : (oneS c).1.length = 1 := rfl
      show _ ≤ 16777216
      omega
    · have : spellF (((lets n).take pre.length).foldl spellF z_) l = zcat (((lets n).take pre.length).foldl spellF z_) (oneS c) := by unfold spellF; rw [hc]
      rw [List.length_append, List.length_singleton, htk, List.foldl_append, List.foldl_cons, List.foldl_nil, this]
      refine Prod.ext rfl (Prod.ext rfl ?_)
      show ((k + 1 + pre.length + 1 : Nat) : Int) = ((k + 1 + (pre.length + 1) : Nat) : Int)
      omega
    · rw [zcat_len, List.length_append, List.length_singleton]
      have : (oneS c).1.length = 1 := rfl
      omega
  · have hlen : (rgI 0 ((n.1.length : Nat) : Int)).length = n.1.length := by rw [rgI_length]; omega
    rw [hs, hlen, ← l3, List.take_length, hn.sp]
def lastR (l : S) (rs : List CRow) : S := rs.foldl (fun _ r => r.1) l
def ascR : S → List CRow → Prop
  | _, [] => True
  | l, r :: rs => leC eZ r.1 l = false ∧ ascR r.1 rs
theorem ascR_snoc : ∀ (l : S) (rs : List CRow) (r : CRow), ascR l (rs ++ [r]) ↔ ascR l rs ∧ leC eZ r.1 (lastR l rs) = false
  | l, [], r => by simp [ascR, lastR]
  | l, q :: rs, r => by
    show (leC eZ q.1 l = false ∧ ascR q.1 (rs ++ [r])) ↔ _
    rw [ascR_snoc q.1 rs r]
    show _ ↔ (leC eZ q.1 l = false ∧ ascR q.1 rs) ∧ leC eZ r.1 (lastR q.1 rs) = false
    constructor
    · rintro ⟨a, b, c⟩; exact ⟨⟨a, b⟩, c⟩
    · rintro ⟨⟨a, b⟩, c⟩; exact ⟨a, b, c⟩
theorem lastR_snoc (l : S) (rs : List CRow) (r : CRow) : lastR l (rs ++ [r]) = r.1 := by unfold lastR; rw [List.foldl_append]; rfl
theorem ltC_of_leC {a b : S} (h : leC eZ a b = false) : ltC eZ b a = true := by
  unfold leC at h
  cases e : ltC eZ b a with
  | true => rfl
  | false => rw [e] at h; cases h
theorem ascR_lt : ∀ {l : S} {rs : List CRow}, ascR l rs → rs.Pairwise (fun a b => ltC eZ a.1 b.1 = true) ∧ ∀ r, r ∈ rs → ltC eZ l r.1 = true
  | l, [], _ => ⟨.nil, fun _ h => nomatch h⟩
  | l, r :: rs, ⟨h1, h2⟩ => by
    obtain ⟨i1, i2⟩ := ascR_lt h2
    have h3 := ltC_of_leC h1
    refine ⟨List.pairwise_cons.mpr ⟨fun q hq => i2 q hq, i1⟩, fun q hq => ?_⟩
    rcases List.mem_cons.mp hq with rfl | hq
    · exact h3
    · exact ltC_trans h3 (i2 q hq)
def heldR (rs : List CRow) : List (S × Rul) := rs.map fun r => (r.1, ⟨r.2.1, r.2.2⟩)
theorem keys_heldR (rs : List CRow) : keys (heldR rs) = rs.map (·.1) := by unfold keys heldR; rw [List.map_map]; rfl
theorem ascR_nodup {l : S} {rs : List CRow} (h : ascR l rs) : (keys (heldR rs)).Nodup := by
  rw [keys_heldR]
  refine List.pairwise_map.mpr ((ascR_lt h).1.imp fun {a b} hab e => ?_)
  rw [e, ltC_irrefl] at hab
  cases hab
theorem leS_ltC {a b : S} (h : ltC eZ a b = true) : leS a b = true := by
  rw [ltC_str, decide_eq_true_eq] at h
  unfold leS
  rw [decide_eq_true_eq]
  exact List.le_of_lt h
theorem ascR_ssort {l : S} {rs : List CRow} (h : ascR l rs) : ssort (keys (heldR rs)) = keys (heldR rs) := by
  unfold ssort
  refine List.mergeSort_of_pairwise ?_
  rw [keys_heldR]
  exact List.pairwise_map.mpr ((ascR_lt h).1.imp fun {a b} hab => leS_ltC hab)
theorem assoc_ext {ν : Type} : ∀ {a b : List (S × ν)}, keys a = keys b → (keys a).Nodup → (∀ p, p ∈ a ↔ p ∈ b) → a = b
  | [], [], _, _, _ => rfl
  | [], q :: b, h, _, _ => by cases h
  | p :: a, [], h, _, _ => by cases h
  | p :: a, q :: b, h, nd, hm => by
    obtain ⟨p1, p2⟩ := p
    obtain ⟨q1, q2⟩ := q
    have h1 : p1 = q1 := (List.cons.inj h).1
    have h2 : keys a = keys b := (List.cons.inj h).2
    subst h1
    have n1 : p1 ∉ keys a := (List.nodup_cons.mp nd).1
    have e : p2 = q2 := by
      have := (hm (p1, p2)).mp List.mem_cons_self
      rcases List.mem_cons.mp this with z | z
      · exact (Prod.mk.inj z).2
      · exact absurd (h2 ▸ List.mem_map_of_mem (f := (·.1)) z) n1
    subst e
    rw [assoc_ext h2 (List.nodup_cons.mp nd).2 fun p => ?_]
    constructor
    · intro hp
      rcases List.mem_cons.mp ((hm p).mp (List.mem_cons_of_mem _ hp)) with z | z
      · subst z; exact absurd (List.mem_map_of_mem (f := (·.1)) hp) n1
      · exact z
    · intro hp
      rcases List.mem_cons.mp ((hm p).mpr (List.mem_cons_of_mem _ hp)) with z | z
      · subst z; exact absurd (h2 ▸ List.mem_map_of_mem (f := (·.1)) hp) n1
      · exact z
theorem mk_Rack_asc {l : S} {rs : List CRow} (h : ascR l rs) (ho : ∀ r, r ∈ rs → RowOk r) (ne : rs ≠ []) (le : rs.length ≤ 6) : mk_Rack (heldR rs) = .ok ⟨heldR rs⟩ ∧ RakOk ⟨heldR rs⟩ := by
  have nd := ascR_nodup h
  obtain ⟨r, e, k1, k2, k3, k4⟩ := mk_Rack_ok (rs := heldR rs) (fun p hp => by
      obtain ⟨q, hq, rfl⟩ := List.mem_map.mp hp; exact (ho q hq).nm.nm) nd (fun z => ne (List.map_eq_nil_iff.mp z)) (by unfold heldR; rw [List.length_map]; exact le) (fun p hp => by
      obtain ⟨q, hq, rfl⟩ := List.mem_map.mp hp; exact (ho q hq).ru)
  rw [ascR_ssort h] at k2
  have : r = ⟨heldR rs⟩ := by
    obtain ⟨hd⟩ := r
    dsimp only at k2 k3
    rw [assoc_ext k2 (by rw [k2]; exact nd) k3]
  subst this
  exact ⟨e, k1⟩
theorem rack_of_asc {l : S} {rs : List CRow} (h : ascR l rs) (ho : ∀ r, r ∈ rs → RowOk r) (ne : rs ≠ []) (le : rs.length ≤ 6) : m_rack_of rs = .ok ⟨heldR rs⟩ := by
  unfold m_rack_of
  rw [Out.compS_unit (o := fun r => some (r.1, (⟨r.2.1, r.2.2⟩ : Rul))) _ _ fun x hx => by
    rw [mk_Ruler_ok (ho x hx).ru, Out.nox_ok, Out.bind_ok]]
  rw [Out.bind_ok, List.nil_append, List.filterMap_eq_map']
  show (mk_Rack (dmk (heldR rs))).bind _ = _
  rw [dmk_of_nodup (ascR_nodup h), (mk_Rack_asc h ho ne le).1]
  rfl
/-- the loop over rows that ascend -/
theorem decode_loop {cs : List Int} : ∀ (rs : List CRow) (k : Nat) (last : S) (done : List CRow) (xs : List Int), xs.length = rs.length → done.length + rs.length ≤ 1000 → (∀ r, r ∈ rs → RowOk r) → AtC cs k (rs.flatMap ruCode) → ascR last rs →
    Out.fold (σ := S × (List ((S × Int × List Int))) × S_Reader) (fun s8 (x10 : Int) =>
      (m_Reader_take_name s8.2.2 s8.1).bind fun r17 =>
      (m_Reader_take r17.2 (0 : Int) (9 : Int)).bind fun r19 =>
      (m_Reader_take_marks r19.2).bind fun r22 =>
      (Out.guard ((s8.2.1).length < LIM)).bind fun _ =>
      (Out.ok (s8.2.1 ++ [(r17.1, r19.1, r22.1)])).bind fun rows25 =>
      Out.ok (r17.1, rows25, r22.2)) xs (last, done, ⟨cs, (k : Int)⟩) = .ok (lastR last rs, done ++ rs, ⟨cs, ((k + (rs.flatMap ruCode).length : Nat) : Int)⟩)
  | [], k, last, done, xs, hl, _, _, _, _ => by
    obtain rfl : xs = [] := List.length_eq_zero_iff.mp hl
    rw [Out.fold_nil, List.append_nil]; rfl
  | (n, e, ms) :: rs, k, last, done, [], hl, _, _, _, _ => by cases hl
  | (n, e, ms) :: rs, k, last, done, x :: xs, hl, hb, ho, ha, hs => by
    have h0 := ho _ List.mem_cons_self
    rw [List.flatMap_cons] at ha
    have h1 := ha.left
    have h2 := ha.right
    have hcode : ruCode (n, e, ms) = (((n.1.length : Nat) : Int) :: lets n) ++ (e :: ((ms.length : Int) - 2) :: gapsL ms) := rfl
    rw [hcode] at h1
    have h3 := h1.right
    have hnl : (lets n).length = n.1.length := h0.nm.len
    have hl3 : (((n.1.length : Nat) : Int) :: lets n).length = 1 + n.1.length := by rw [List.length_cons, hnl]; omega
    rw [hl3] at h3
    rw [Out.fold_cons]
    dsimp only
    rw [take_name_eq h0.nm h1.left, if_neg (by rw [hs.1]; simp), Out.bind_ok]
    dsimp only
    have e0 := h0.ru.e0
    have e9 := h0.ru.e9
    rw [show k + 1 + n.1.length = k + (1 + n.1.length) by omega, take_ok h3.hd e0 e9, Out.bind_ok]
    dsimp only
    rw [take_marks_ok h0.ru h3.tl, Out.bind_ok, Out.bind_guard (by rw [List.length_cons] at hb; show _ < 16777216; omega), Out.bind_ok, Out.bind_ok]
    have hlen : (ruCode (n, e, ms)).length = 1 + n.1.length + 2 + 2 * (ms.length - 1) := (ruCode_len h0).1
    rw [show k + (1 + n.1.length) + 1 + 1 + 2 * (ms.length - 1) = k + (ruCode (n, e, ms)).length by rw [hlen]; omega]
    rw [decode_loop rs _ n _ xs (by simpa using hl) (by rw [List.length_append, List.length_singleton]; rw [List.length_cons] at hb; omega) (fun r hr => ho r (List.mem_cons_of_mem _ hr)) h2 hs.2]
    rw [List.flatMap_cons, List.length_append, List.append_assoc]
    rw [show k + (ruCode (n, e, ms)).length + (rs.flatMap ruCode).length = k + ((ruCode (n, e, ms)).length + (rs.flatMap ruCode).length) by omega]
    rfl
/-- .. up to a name that does not ascend -/
theorem decode_loop_bad {cs : List Int} {good : List CRow} {bad : CRow} {k : Nat} {last : S} {xs : List Int} {rest : List CRow} (hl : xs.length = good.length + 1 + rest.length) (hb : good.length ≤ 900) (ho : ∀ r, r ∈ good → RowOk r) (hbad : RowOk bad) (ha : AtC cs k ((good ++ bad :: rest).flatMap ruCode)) (hs : ascR last good) (hx : leC eZ bad.1 (lastR last good) = true) :
    Out.fold (σ := S × (List ((S × Int × List Int))) × S_Reader) (fun s8 (x10 : Int) =>
      (m_Reader_take_name s8.2.2 s8.1).bind fun r17 =>
      (m_Reader_take r17.2 (0 : Int) (9 : Int)).bind fun r19 =>
      (m_Reader_take_marks r19.2).bind fun r22 =>
      (Out.guard ((s8.2.1).length < LIM)).bind fun _ =>
      (Out.ok (s8.2.1 ++ [(r17.1, r19.1, r22.1)])).bind fun rows25 =>
      Out.ok (r17.1, rows25, r22.2)) xs (last, [], ⟨cs, (k : Int)⟩) = .ex ⟨21, [("offset", eI ((k + (good.flatMap ruCode).length : Nat) : Int))]⟩ := by
  rw [List.flatMap_append] at ha
  have hxs : xs = xs.take good.length ++ xs.drop good.length := (List.take_append_drop _ _).symm
  rw [hxs, Out.fold_append, decode_loop good k last [] _ (by rw [List.length_take]; omega) (by simp; omega) ho ha.left hs, Out.bind_ok]
  have h2 := ha.right
  rw [List.flatMap_cons] at h2
  obtain ⟨y, ys, hy⟩ : ∃ y ys, xs.drop good.length = y :: ys := by
    cases e : xs.drop good.length with
    | nil => have := congrArg List.length e; rw [List.length_drop] at this; simp at this; omega
    | cons y ys => exact ⟨y, ys, rfl⟩
  rw [hy, Out.fold_cons]
  dsimp only
  have hcode : ruCode bad = (((bad.1.1.length : Nat) : Int) :: lets bad.1) ++ (bad.2.1 :: ((bad.2.2.length : Int) - 2) :: gapsL bad.2.2) := rfl
  have h3 := h2.left
  rw [hcode] at h3
  rw [take_name_eq hbad.nm h3.left, if_pos hx]
  rfl
/-- what decode_rack tells of a code whose names ascend -/
theorem decode_ok {rs : List CRow} (h : ascR z_ rs) (ho : ∀ r, r ∈ rs → RowOk r) (ne : rs ≠ []) (le : rs.length ≤ 6) (cs : List Int) (hc : cs = [82, (rs.length : Int)] ++ rs.flatMap ruCode) : m_decode_rack (cs ++ [sumC cs]) = .ok ⟨heldR rs⟩ := by
  have hpos : 0 < rs.length := List.length_pos_iff.mpr ne
  have a0 := AtC.self (cs ++ [sumC cs])
  have a1 : AtC (cs ++ [sumC cs]) 0 (82 :: (rs.length : Int) :: rs.flatMap ruCode) := by
    have := a0.left
    rw [hc] at this ⊢
    exact this
  have a2 : AtC (cs ++ [sumC cs]) cs.length [sumC cs] := by have := a0.right; rwa [Nat.zero_add] at this
  have hcl : cs.length = 2 + (rs.flatMap ruCode).length := by rw [hc, List.length_append]; rfl
  unfold m_decode_rack
  rw [show (⟨cs ++ [sumC cs], (0 : Int)⟩ : S_Reader) = ⟨cs ++ [sumC cs], ((0 : Nat) : Int)⟩ from rfl, take_ok a1.hd (by omega) (by omega), Out.bind_ok, Out.bind_ok, Out.bind_ok]
  dsimp only
  rw [take_ok a1.tl.hd (by omega) (by omega), Out.bind_ok]
  dsimp only
  rw [Out.bind_guard ⟨by omega, by omega⟩]
  rw [decode_loop rs _ z_ [] _ (by rw [rgI_length]; omega) (by simp; omega) ho a1.tl.tl h, Out.bind_ok]
  dsimp only
  rw [show 0 + 1 + 1 + (rs.flatMap ruCode).length = cs.length by omega, pcut_to, List.take_left' rfl, checksum_ok, Out.bind_ok, take_ok a2.hd (Int.le_refl _) (Int.le_refl _), Out.bind_ok]
  dsimp only
  rw [if_neg (by rw [List.length_append, List.length_singleton]; simp), List.nil_append, rack_of_asc h ho ne le]
  rfl
theorem decode_bad {good rest : List CRow} {bad : CRow} (h : ascR z_ good) (hx : leC eZ bad.1 (lastR z_ good) = true) (ho : ∀ r, r ∈ good ++ bad :: rest → RowOk r) (le : (good ++ bad :: rest).length ≤ 6) (cs tl : List Int) (hc : cs = [82, ((good ++ bad :: rest).length : Int)] ++ (good ++ bad :: rest).flatMap ruCode) :
    m_decode_rack (cs ++ tl) = .ex ⟨21, [("offset", eI ((2 + (good.flatMap ruCode).length : Nat) : Int))]⟩ := by
  have a0 := AtC.self (cs ++ tl)
  have hl : (good ++ bad :: rest).length = good.length + 1 + rest.length := by rw [List.length_append, List.length_cons]; omega
  have a1 : AtC (cs ++ tl) 0 (82 :: ((good ++ bad :: rest).length : Int) :: (good ++ bad :: rest).flatMap ruCode) := by
    have := a0.left
    rw [hc] at this ⊢
    exact this
  unfold m_decode_rack
  rw [show (⟨cs ++ tl, (0 : Int)⟩ : S_Reader) = ⟨cs ++ tl, ((0 : Nat) : Int)⟩ from rfl, take_ok a1.hd (by omega) (by omega), Out.bind_ok, Out.bind_ok, Out.bind_ok]
  dsimp only
  rw [take_ok a1.tl.hd (by omega) (by omega), Out.bind_ok]
  dsimp only
  rw [Out.bind_guard ⟨by omega, by omega⟩]
  rw [decode_loop_bad (good := good) (bad := bad) (rest := rest) (by rw [rgI_length]; omega) (by omega) (fun r hr => ho r (List.mem_append_left _ hr)) (ho bad (List.mem_append_right _ List.mem_cons_self)) a1.tl.tl h hx]
  rfl
theorem encode_ok {rs : List CRow} (h : RakOk ⟨heldR rs⟩) (ho : ∀ r, r ∈ rs → RowOk r) : m_encode_rack ⟨heldR rs⟩ = .ok (([82, (rs.length : Int)] ++ rs.flatMap ruCode) ++ [sumC ([82, (rs.length : Int)] ++ rs.flatMap ruCode)]) := by
  have hle := h.le
  have hnd := h.nd
  have hl : (heldR rs).length = rs.length := List.length_map ..
  dsimp only at hle hnd
  apply Out.yes.eq
  unfold m_encode_rack
  have hlen : m_Rack___len ⟨heldR rs⟩ = (rs.length : Int) := by unfold m_Rack___len; rw [hl]
  rw [hlen]
  refine Out.yes_guard ⟨by omega, by omega⟩ (Out.yes_let ?_)
  refine Out.yes_bind (Out.fold_yes (fun (pre : List S) (s : List Int) => s = [82, (rs.length : Int)] ++ (rs.take pre.length).flatMap ruCode ∧ s.length ≤ 2 + 33 * pre.length) _ _ ⟨by simp, by simp⟩ fun pre x post s hx ⟨hs, hsl⟩ => ?_) fun s ⟨hs, hsl⟩ => ?_
  · have hx0 : ((heldR rs).map (·.1))[pre.length]? = some x := by
      have : (heldR rs).map (·.1) = pre ++ x :: post := hx
      rw [this]; simp
    rw [List.getElem?_map, Option.map_eq_some_iff] at hx0
    obtain ⟨p, hp, hpx⟩ := hx0
    unfold heldR at hp
    rw [List.getElem?_map, Option.map_eq_some_iff] at hp
    obtain ⟨⟨n, e, ms⟩, hr, rfl⟩ := hp
    dsimp only at hpx
    subst hpx
    have hro := ho _ (List.mem_of_getElem? hr)
    have hrl := (List.getElem?_eq_some_iff.mp hr).1
    have hg : dget (heldR rs) n = some ⟨e, ms⟩ := dget_of_mem hnd (List.mem_map_of_mem (f := fun r : CRow => (r.1, (⟨r.2.1, r.2.2⟩ : Rul))) (List.mem_of_getElem? hr))
    rw [item_ok (r := ⟨heldR rs⟩) hg, Out.nox_ok, Out.bind_ok, ruler_codes_ok hro, Out.bind_ok]
    have := (ruCode_len hro).2
    refine Out.yes_guard (by show _ ≤ 16777216; omega) (Out.yes_let (Out.yes_ok ⟨?_, ?_⟩))
    · rw [hs, List.length_append, List.length_singleton, List.take_succ_eq_append_getElem hrl, (List.getElem?_eq_some_iff.mp hr).2, List.flatMap_append, List.append_assoc]; simp
    · rw [List.length_append, List.length_append, List.length_singleton]; omega
  · have e1 : (m_Rack_names ⟨heldR rs⟩).length = rs.length := by unfold m_Rack_names; rw [List.length_map, hl]
    rw [e1, List.take_length] at hs
    rw [e1] at hsl
    rw [checksum_ok, Out.bind_ok]
    refine Out.yes_guard (by rw [List.length_singleton]; show _ ≤ 16777216; omega) (Out.yes_ok ?_)
    rw [hs]
theorem Rack_eq_self {r : Rak} (h : RakOk r) : m_Rack___eq r r = .ok true := by
  unfold m_Rack___eq
  rw [if_neg (by simp)]
  rw [compS_none _ _ fun x hx => by
    obtain ⟨v, hv⟩ := dget_some (kvs := r.held) hx
    rw [Out.bind_get hv, item_ok hv]
    simp [m_Ruler___eq, m_Ruler_marks, m_Ruler_error]]
  rfl
def names91 : List S := [z_a, z_ab, z_ash, z_b, z_bay, z_z]
theorem nm91 : ∀ n, n ∈ names91 → NmOk n := by
  intro n hn
  unfold names91 at hn
  simp only [List.mem_cons, List.not_mem_nil, or_false] at hn
  rcases hn with rfl | rfl | rfl | rfl | rfl | rfl <;> exact ⟨by decide +kernel, by decide +kernel, by decide +kernel, by decide +kernel, by decide +kernel, by decide +kernel, by with_unfolding_all rfl⟩
/-- the law's rows: all ascend, or one does not -/
def Wr91 (rs : List CRow) (wrong : Option Int) (table : List (S × Rul)) : Prop :=
  (wrong = none ∧ ascR z_ rs ∧ table = heldR rs) ∨ ∃ good bad rest, rs = good ++ bad :: rest ∧ ascR z_ good ∧ leC eZ bad.1 (lastR z_ good) = true ∧ wrong = some ((2 + (good.flatMap ruCode).length : Nat) : Int)
theorem law_true (ns : List Int) (hl : ns.length ≤ 63) : m_law ns = .ok true := by
  apply Out.yes.eq
  unfold m_law
  refine Out.yes_guard hl ?_
  refine Out.yes_bind (Out.loop_yes (fun _ _ => True) (fun _ => False) _ _ trivial fun _ _ _ s _ _ => ?_) fun t ht => ?_
  rotate_left
  · cases t with
    | nx s => exact Out.yes_ok rfl
    | rt v => exact ht.elim
  refine Out.yes_bind (next_yes (by omega) (by omega) _) fun r6 ⟨h6, h6'⟩ => Out.yes_let (Out.yes_let (Out.yes_let (Out.yes_let (Out.yes_let ?_))))
  refine Out.yes_get (a := (2 : Int) + r6.1) rfl (Out.yes_guard ⟨by omega, by omega⟩ ?_)
  refine Out.yes_bind (R := fun s => ∃ rs : List CRow, (rs.length : Int) = 2 + r6.1 ∧ (∀ r, r ∈ rs → RowOk r) ∧ s.2.1 = [82, (2 : Int) + r6.1] ++ rs.flatMap ruCode ∧ Wr91 rs s.1 s.2.2.2.1) (Out.yes.mono (Out.fold_yes (fun (pre : List Int) (s : Option Int × List Int × S × List (S × Rul) × Bh) => ∃ rs : List CRow, rs.length = pre.length ∧ (∀ r, r ∈ rs → RowOk r) ∧ s.2.1 = [82, (2 : Int) + r6.1] ++ rs.flatMap ruCode ∧ s.2.2.1 = lastR z_ rs ∧ s.2.2.2.1.length ≤ pre.length ∧ s.2.1.length ≤ 2 + 33 * pre.length ∧ Wr91 rs s.1 s.2.2.2.1) _ _ ?_ fun pre x post s hx hI => ?_) fun s hI => ?_) fun s hI => ?_
  · exact ⟨[], rfl, (fun r h => nomatch h), rfl, rfl, Nat.le_refl _, Nat.le_refl _, Or.inl ⟨rfl, trivial, rfl⟩⟩
  · obtain ⟨rs, i1, i2, i3, i4, i5, i6, i7⟩ := hI
    obtain ⟨wrong, found, last, table, bx⟩ := s
    dsimp only at i3 i4 i5 i6 i7 ⊢
    obtain ⟨x1, x2⟩ := rgI_at hx
    refine Out.yes_bind (next_yes (by omega) (by omega) _) fun r17 ⟨h17, h17'⟩ => ?_
    obtain ⟨n, hn, hnm⟩ := pix_some (xs := [z_a, z_ab, z_ash, z_b, z_bay, z_z]) (i := if (x + r17.1) < (5 : Int) then x + r17.1 else (5 : Int)) (by split <;> omega) (by show _ < ((6 : Nat) : Int); split <;> omega)
    refine Out.yes_get hn ?_
    refine Out.yes_bind (marks2_yes (by omega) (by omega) (by omega) (by omega) _) fun r19 ⟨w, w1, w2, hg⟩ => ?_
    have hru : RulOk ⟨x, r19.1⟩ := hg.ok w1 (by omega) (by omega) (by omega) (by omega)
    have hro : RowOk (n, x, r19.1) := ⟨nm91 n hnm, hru⟩
    refine Out.yes_let (Out.yes_let (Out.yes_let ?_))
    have hdk : dmk [(n, (r19.1, x))] = [(n, (r19.1, x))] := dmk_of_nodup (by unfold keys; simp)
    rw [hdk, law_code_ok (by unfold keys; simp) (by simp) (fun p hp => by rw [List.mem_singleton] at hp; subst hp; exact hro), Out.bind_ok]
    have hcut : pcut ([82, (([(n, (r19.1, x))] : List (S × List Int × Int)).length : Int)] ++ (([(n, (r19.1, x))] : List (S × List Int × Int)).map rowOf).flatMap ruCode) (some (2 : Int)) none = ruCode (n, x, r19.1) := by
      have := pcut_from ([82, (([(n, (r19.1, x))] : List (S × List Int × Int)).length : Int)] ++ (([(n, (r19.1, x))] : List (S × List Int × Int)).map rowOf).flatMap ruCode) 2
      rw [show (some (2 : Int)) = some ((2 : Nat) : Int) from rfl, this]
      show List.drop 0 ([] ++ (([(n, (r19.1, x))] : List (S × List Int × Int)).map rowOf).flatMap ruCode) = _
      simp [rowOf]
    rw [hcut]
    have hcl := (ruCode_len hro).2
    have hpl : pre.length ≤ 4 := by omega
    refine Out.yes_guard (by show _ ≤ 16777216; omega) (Out.yes_let (Out.yes_let ?_))
    rw [mk_Ruler_ok hru, Out.bind_ok]
    refine Out.yes_guard (by show _ < 16777216; omega) (Out.yes_let (Out.yes_ok ⟨rs ++ [(n, x, r19.1)], by rw [List.length_append, List.length_append, i1]; rfl, fun r hr => ?_, ?_, ?_, ?_, ?_, ?_⟩))
    · rcases List.mem_append.mp hr with hr | hr
      · exact i2 r hr
      · rw [List.mem_singleton] at hr; subst hr; exact hro
    · rw [i3, List.flatMap_append, List.append_assoc]; simp
    · rw [lastR_snoc]
    · rw [List.length_append, List.length_singleton]
      show (dput table n (⟨x, r19.1⟩ : Rul)).length ≤ pre.length + 1
      have : (dput table n (⟨x, r19.1⟩ : Rul)).length ≤ table.length + 1 := by
        rw [dput_eq]; split
        · rw [List.length_map]; omega
        · rw [List.length_append, List.length_singleton]; omega
      omega
    · rw [List.length_append, List.length_append, List.length_singleton]; omega
    · rcases i7 with ⟨k1, k2, k3⟩ | ⟨good, bad, rest, k1, k2, k3, k4⟩
      · subst k1 i4
        cases hc : leC eZ n (lastR z_ rs) with
        | true =>
          refine .inr ⟨rs, (n, x, r19.1), [], rfl, k2, hc, ?_⟩
          rw [if_pos (by rfl), i3, List.length_append]; rfl
        | false =>
          refine .inl ⟨?_, (ascR_snoc _ _ _).mpr ⟨k2, hc⟩, ?_⟩
          · rw [if_neg (by simp)]
          · have hk : n ∉ keys table := by
              rw [k3]
              have := ascR_nodup ((ascR_snoc z_ rs (n, x, r19.1)).mpr ⟨k2, hc⟩)
              rw [keys_heldR, List.map_append, List.nodup_append] at this
              rw [keys_heldR]
              intro z
              exact this.2.2 n z n (by simp) rfl
            rw [dput_new hk, k3]
            unfold heldR
            rw [List.map_append]; rfl
      · subst k4
        refine .inr ⟨good, bad, rest ++ [(n, x, r19.1)], by rw [k1]; simp, k2, k3, ?_⟩
        rw [if_neg (by simp)]
  · obtain ⟨rs, i1, i2, i3, i4, i5, i6, i7⟩ := hI
    exact ⟨rs, by rw [i1, rgI_length]; omega, i2, i3, i7⟩
  · obtain ⟨rs, i1, i2, i3, i7⟩ := hI
    obtain ⟨wrong, found, last, table, bx⟩ := s
    dsimp only at i3 i7 ⊢
    have hrl : rs.length ≤ 4 := by omega
    have hfl : found.length ≤ 200 := by
      rw [i3, List.length_append]
      have key : ∀ l : List CRow, (∀ r, r ∈ l → RowOk r) → (l.flatMap ruCode).length ≤ 33 * l.length := by
        intro l
        induction l with
        | nil => intro _; simp
        | cons a l ih =>
          intro h
          have := (ruCode_len (h a List.mem_cons_self)).2
          have := ih fun r hr => h r (List.mem_cons_of_mem _ hr)
          rw [List.flatMap_cons, List.length_append, List.length_cons]; omega
      have := key rs i2
      show 2 + _ ≤ 200
      omega
    have i3' : found = [82, (rs.length : Int)] ++ rs.flatMap ruCode := by rw [i3, i1]
    have ne : rs ≠ [] := fun z => by rw [z] at i1; simp at i1; omega
    rcases i7 with ⟨k1, k2, k3⟩ | ⟨good, bad, rest, k1, k2, k3, k4⟩
    · subst k1
      obtain ⟨m1, m2⟩ := mk_Rack_asc k2 i2 ne (by omega)
      rw [if_neg (by simp), k3, m1, Out.bind_ok, Out.bind_ok, law_sum_ok, Out.bind_ok]
      refine Out.yes_guard (by rw [List.length_singleton]; show _ ≤ 16777216; omega) ?_
      have hd := decode_ok k2 i2 ne (by omega) found i3'
      rw [show m_law_seen (found ++ [sumC found]) = .ok (Sum.inr ⟨heldR rs⟩) by unfold m_law_seen; rw [hd]; rfl, Out.bind_ok]
      dsimp only [Out.neSi]
      rw [Rack_eq_self m2, Out.nox_ok, Out.bind_ok, Out.nox_ok, Out.bind_ok]
      refine Out.yes_ifF (by rfl) ?_
      rw [if_pos (by rfl), show (Out.get ((Sum.inr (⟨heldR rs⟩ : Rak) : Int ⊕ Rak)).getRight?) = Out.ok (⟨heldR rs⟩ : Rak) from rfl, Out.bind_ok, encode_ok m2 i2, Out.bind_ok, ← i3', Out.bind_ok, Out.bind_guard (by rw [List.length_singleton]; show _ ≤ 16777216; omega), Out.bind_ok]
      exact Out.yes_ifF (by simp) (Out.yes_ok trivial)
    · subst k4
      rw [if_pos (by simp), Out.bind_get (a := (((2 + (good.flatMap ruCode).length : Nat) : Int))) rfl, Out.bind_ok, law_sum_ok, Out.bind_ok]
      refine Out.yes_guard (by rw [List.length_singleton]; show _ ≤ 16777216; omega) ?_
      have hd := decode_bad (cs := found) (tl := [sumC found]) k2 k3 (by rw [← k1]; exact i2) (by rw [← k1]; omega) (by rw [← k1]; exact i3')
      rw [show m_law_seen (found ++ [sumC found]) = .ok (Sum.inl ((2 + (good.flatMap ruCode).length : Nat) : Int)) by unfold m_law_seen; rw [hd]; rfl, Out.bind_ok]
      dsimp only [Out.neSi]
      rw [Out.nox_ok, Out.bind_ok]
      refine Out.yes_ifF (by simp) ?_
      rw [if_neg (by simp), Out.bind_ok]
      exact Out.yes_ifF rfl (Out.yes_ok trivial)
abbrev s_InvalidRuler_init : Stmt := inClass (topS 3) 0
theorem xtx_InvalidRuler : XiT2 s_InvalidRuler_init "InvalidRuler.__init__" "part" "index" := ⟨⟨_, _, _, _, _, _, _, _, _, _, _, _, _, _, _, _, rfl, fun _ _ _ => ⟨⟨fun _ => rfl, fun _ => ⟨_, rfl⟩, by decide +kernel, rfl, rfl⟩, ⟨fun _ => rfl, rfl, by decide, by decide⟩, ⟨fun _ => rfl, rfl, by decide, by decide⟩⟩⟩, ⟨_, rfl, rfl⟩, rfl, rfl, rfl, rfl, by decide, fun _ _ _ _ _ _ _ _ _ _ _ => .of_eq rfl⟩
abbrev s_InvalidRack_init : Stmt := inClass (topS 4) 0
theorem xtx_InvalidRack : XiT1 s_InvalidRack_init "InvalidRack.__init__" "name" := ⟨⟨_, _, _, _, _, _, _, _, _, _, _, _, rfl, fun _ _ _ => ⟨⟨fun _ => rfl, fun _ => ⟨_, rfl⟩, by decide +kernel, rfl, rfl⟩, ⟨fun _ => rfl, rfl, by decide, by decide⟩⟩⟩, ⟨_, rfl, rfl⟩, rfl, rfl, rfl, rfl, fun _ _ _ _ _ _ _ _ _ _ => .of_eq rfl⟩
abbrev s_DecodeError_init : Stmt := inClass (topS 6) 0
theorem xtx_DecodeError : XiT1 s_DecodeError_init "DecodeError.__init__" "offset" := ⟨⟨_, _, _, _, _, _, _, _, _, _, _, _, rfl, fun _ _ _ => ⟨⟨fun _ => rfl, fun _ => ⟨_, rfl⟩, by decide +kernel, rfl, rfl⟩, ⟨fun _ => rfl, rfl, by decide, by decide⟩⟩⟩, ⟨_, rfl, rfl⟩, rfl, rfl, rfl, rfl, fun _ _ _ _ _ _ _ _ _ _ => .of_eq rfl⟩
local macro_rules | `(tactic| walk_at "vis") => `(tactic| first | exact .inl rfl | exact .inr (.inl rfl) | exact .inr (.inr rfl) | exact .inr rfl)
abbrev is_Reader : List Nat := [0, 1]
abbrev sl_Reader (s : S_Reader) : List D := [(eL eI) s.codes, eI s.offset]
structure Clo_Reader (K : PySem.W.Frag) (C : Addr) : Prop where
  cls : SlX.SCls K C
  s_codes : ∃ p, SlX.Slot1 K C "codes" p 0
  s_offset : ∃ p, SlX.Slot1 K C "offset" p 1
section
variable {P : Program} {w : World} {K : PySem.W.Frag} {mg : Str → Option Value} {base : Heap} {cx : Nat → Addr} {C_Ruler : Addr} {C_Rack : Addr} {C_Reader : Addr}
/-- _law_mix, as a plain function -/
theorem ok_law_mix {f : Addr} {fd : FuncData} (F : Fun K "_law_mix" "_law_mix" s_law_mix f fd) (B : Bn mg) : FnOk P w K mg base (L2.CX P w) 3 f fd ["_law_script", "_law_seed"] (spD K (FMix m_law_mix)) := by
  refine def_ok F sc_law_mix (fun ds G post px h => ?_) (fun cdv A outer s H E F0 T hr ds G post px h tk hp => ?_)
  · obtain ⟨_, _, _, rfl, _⟩ := h; rfl
  obtain ⟨ns, seed, hlen, rfl, hq⟩ := h
  have nd := sc_law_mix.nd
  refine wb_env [.sh (.scr ns), .sh (.int seed), .no, .no] rfl ?_
  refine wb_cons (ws_set 2 nd rfl (.inl rfl) ?_)
  refine we_var 1 rfl (by walk_at "vis") rfl ?_
  refine ⟨lt_ rfl, _, rfl, ?_⟩
  refine wb_cons (ws_for (is := [3]) hp rfl ?_)
  refine wi_scr ?_
  refine we_var 0 rfl (by walk_at "vis") rfl ?_
  refine ⟨ns, _, rfl, fun k r G' => G' = G ∧ ∃ z, r = [.sh (.scr ns), .sh (.int seed), .sh (.int ((ns.take k).foldl (fun s n => (s * 48271 + n % 2147483629 + 1) % 2147483647) seed)), z], ⟨rfl, .no, rfl⟩, fun k d r3 G3 hk ⟨h1, z, h2⟩ => ?_, fun r3 G3 ⟨h1, z, h2⟩ => ?_⟩
  · subst h1 h2
    obtain ⟨n, hn, rfl⟩ := map_at hk
    refine wg_name 3 nd rfl (.inl rfl) (by decide) (lt_ rfl) ?_
    refine wb_cons (ws_set 2 nd rfl (.inl rfl) ?_)
    refine we_bin ?_
    refine we_t1 (x := "int") (id := "int") rfl B.int bt_int ?_
    refine we_bin ?_
    refine we_bin ?_
    refine we_bin ?_
    refine we_var 2 rfl (by walk_at "vis") rfl ?_
    refine we_int ?_
    refine ⟨_, _, .inl rfl, .inl rfl, ?_⟩
    refine opw_mul (.inr ⟨by decide, by decide⟩) ?_
    refine we_bin ?_
    refine we_t1 (x := "int") (id := "int") rfl B.int bt_int ?_
    refine we_var 3 rfl (by walk_at "vis") rfl ?_
    refine ⟨_, .inl rfl, ?_⟩
    refine c_int ?_
    refine we_int ?_
    refine ⟨_, _, .inl rfl, .inl rfl, ?_⟩
    refine opw_mod (by decide) ?_
    refine ⟨_, _, .inl rfl, .inl rfl, ?_⟩
    refine opw_add ?_
    refine we_int ?_
    refine ⟨_, _, .inl rfl, .inl rfl, ?_⟩
    refine opw_add ?_
    refine ⟨_, .inl rfl, ?_⟩
    refine c_int ?_
    refine we_int ?_
    refine ⟨_, _, .inl rfl, .inl rfl, ?_⟩
    refine opw_mod (by decide) ?_
    refine ⟨lt_ rfl, _, rfl, ?_⟩
    refine wb_nil ⟨rfl, .sh (.int n), ?_⟩
    rw [List.take_add_one, hn]
    show _ = [_, _, Sl.sh (.int (List.foldl _ _ (ns.take k ++ [n]))), _]
    rw [List.foldl_append]
    rfl
  · subst h1 h2
    rw [List.length_map, List.take_length]
    refine wb_cons (ws_ret ?_)
    refine we_open ?_
    refine we_lst ?_
    refine wa_cons ?_
    refine we_var 2 rfl (by walk_at "vis") rfl ?_
    refine ⟨_, _, rfl, ?_⟩
    refine wa_cons ?_
    refine we_open ?_
    refine we_t1 (x := "list") (id := "list") rfl B.list bt_list ?_
    refine we_var 0 rfl (by walk_at "vis") rfl ?_
    refine ⟨_, .inl rfl, ?_⟩
    refine c_listR ?_
    refine ⟨_, rfl, fun g hg => ?_⟩
    refine ⟨_, _, rfl, ?_⟩
    refine wa_cons ?_
    refine we_int ?_
    refine ⟨_, _, rfl, ?_⟩
    refine wa_nil ?_
    refine ⟨lt_ rfl, ?_⟩
    refine ⟨_, rfl, fun b hb => ?_⟩
    have hne : g ≠ b := fun z => by subst z; rw [updG_same] at hb; cases hb
    exact ⟨_, rfl, hq b g hne (by rwa [updG_ne (Ne.symm hne)] at hb) hg⟩
/-- _law_next, as a plain function -/
theorem ok_law_next {f : Addr} {fd : FuncData} (F : Fun K "_law_next" "_law_next" s_law_next f fd) (B : Bn mg) : FnOk P w K mg base (L2.CX P w) 3 f fd ["_law_h", "_law_limit"] (spD K (FBh (A := Int) (R := Int) (fun a => [eI a]) (fun v => .sh (eI v)) (fun a => m_law_next a))) := by
  refine def_ok F sc_law_next (fun ds G post px h => ?_) (fun cdv A outer s H E F0 T hr ds G post px h tk hp => ?_)
  · obtain ⟨_, _, _, _, _, _, rfl, _⟩ := h; rfl
  obtain ⟨m, G0, b, g, ⟨⟨ns, st, ix⟩, hlen⟩, hne, rfl, rfl, h⟩ := h
  unfold m_law_next at h
  dsimp only at h hlen
  obtain ⟨⟨hm0, hm1⟩, h⟩ := Out.gd h
  obtain ⟨cell, hcell, h⟩ := Out.gt h
  have nd := sc_law_next.nd
  refine wb_env [.sh (.adr b), .sh (.int m), .no] rfl ?_
  refine wb_cons (ws_set 2 nd rfl (.inl rfl) ?_)
  refine we_ix (fun _ _ => rfl) ?_
  refine we_bin ?_
  refine we_ix (fun _ _ => rfl) ?_
  refine we_var 0 rfl (by walk_at "vis") rfl ?_
  refine we_int ?_
  refine ⟨_, _, .inr ⟨b, rfl, bxH_b⟩, .inl rfl, ?_⟩
  refine ixw_lst (d := .adr g) rfl ?_
  refine we_lst ?_
  refine wa_cons ?_
  refine we_int ?_
  refine ⟨_, _, rfl, ?_⟩
  refine wa_nil ?_
  refine ⟨lt_ rfl, ?_⟩
  refine ⟨_, _, .inr ⟨g, rfl, bxH_g hne⟩, .inl rfl, ?_⟩
  refine t_cat (f := eI) ns [(0 : Int)] (by show _ ≤ 16777216; simp; omega) ?_
  refine we_bin ?_
  refine we_t1 (x := "int") (id := "int") rfl B.int bt_int ?_
  refine we_ix (fun _ _ => rfl) ?_
  refine we_var 0 rfl (by walk_at "vis") rfl ?_
  refine we_int ?_
  refine ⟨_, _, .inr ⟨b, rfl, bxH_b⟩, .inl rfl, ?_⟩
  refine ixw_lst (d := .int ix) rfl ?_
  refine ⟨_, .inl rfl, ?_⟩
  refine c_int ?_
  refine we_b2 (x := "max") (id := "max") rfl B.max bt_max ?_
  refine we_int ?_
  refine we_b1 (x := "len") (id := "len") rfl B.len bt_len ?_
  refine we_ix (fun _ _ => rfl) ?_
  refine we_var 0 rfl (by walk_at "vis") rfl ?_
  refine we_int ?_
  refine ⟨_, _, .inr ⟨b, rfl, bxH_b⟩, .inl rfl, ?_⟩
  refine ixw_lst (d := .adr g) rfl ?_
  refine ⟨_, .inr ⟨g, rfl, bxH_g hne⟩, ?_⟩
  refine t_len (f := eI) ns ?_
  refine ⟨_, _, .inl rfl, .inl rfl, ?_⟩
  refine c_max2 rfl ?_
  refine ⟨_, _, .inl rfl, .inl rfl, ?_⟩
  refine opw_mod (by split <;> omega) ?_
  refine ⟨_, _, .inl rfl, .inl rfl, ?_⟩
  refine t_ix (f := eI) (xs := ns ++ [0]) (x := cell) hcell ?_
  refine ⟨lt_ rfl, _, rfl, ?_⟩
  refine wb_env [.sh (.adr b), .sh (.int m), .sh (.int cell)] rfl ?_
  refine wb_cons (ws_if ?_)
  refine wt_cmp (nomark _) ?_
  refine we_var 2 rfl (by walk_at "vis") rfl ?_
  refine we_bin ?_
  refine we_int ?_
  refine we_int ?_
  refine ⟨_, _, .inl rfl, .inl rfl, ?_⟩
  refine opw_pow (⟨by decide, by decide, by decide⟩) ?_
  refine ⟨_, _, .inl rfl, .inl rfl, ?_⟩
  refine opw_ge ?_
  refine ⟨_, rfl, fun hd => ?_, fun hd => ?_⟩
  · have hc : 1000000000000000000 ≤ cell := by
      have := of_decide_eq_true hd
      exact this
    rw [if_pos hc] at h
    obtain ⟨j, hj, h⟩ := Out.gt h
    obtain ⟨hpos, h⟩ := Out.gd h
    refine wb_cons (ws_setG ?_)
    refine we_bin ?_
    refine we_var 2 rfl (by walk_at "vis") rfl ?_
    refine we_var 1 rfl (by walk_at "vis") rfl ?_
    refine ⟨_, _, .inl rfl, .inl rfl, ?_⟩
    refine opw_fdivE ⟨hm0, hm1⟩ ?_
    refine ⟨_, _, rfl, ?_⟩
    refine we_ix (fun _ _ => rfl) ?_
    refine we_var 0 rfl (by walk_at "vis") rfl ?_
    refine we_int ?_
    refine ⟨_, _, .inr ⟨b, rfl, bxH_b⟩, .inl rfl, ?_⟩
    refine ixw_lst (d := .adr g) rfl ?_
    refine ⟨g, rfl, ?_⟩
    refine we_bin ?_
    refine we_t1 (x := "int") (id := "int") rfl B.int bt_int ?_
    refine we_ix (fun _ _ => rfl) ?_
    refine we_var 0 rfl (by walk_at "vis") rfl ?_
    refine we_int ?_
    refine ⟨_, _, .inr ⟨b, rfl, bxH_b⟩, .inl rfl, ?_⟩
    refine ixw_lst (d := .int ix) rfl ?_
    refine ⟨_, .inl rfl, ?_⟩
    refine c_int ?_
    refine we_b1 (x := "len") (id := "len") rfl B.len bt_len ?_
    refine we_ix (fun _ _ => rfl) ?_
    refine we_var 0 rfl (by walk_at "vis") rfl ?_
    refine we_int ?_
    refine ⟨_, _, .inr ⟨b, rfl, bxH_b⟩, .inl rfl, ?_⟩
    refine ixw_lst (d := .adr g) rfl ?_
    refine ⟨_, .inr ⟨g, rfl, bxH_g hne⟩, ?_⟩
    refine t_len (f := eI) ns ?_
    refine ⟨_, _, .inl rfl, .inl rfl, ?_⟩
    refine opw_mod hpos ?_
    refine ⟨ix % ((ns.length : Nat) : Int), _, j, rfl, bxH_g hne, (by rw [List.length_map]; exact hj), ?_⟩
    dsimp only
    rw [show (ns.map D.int).set j (D.int (cell / m)) = (ns.set j (cell / m)).map D.int from by rw [List.map_set], bxH_setG (by rw [List.length_set]; exact hlen) hne]
    refine wb_cons (ws_ret ?_)
    refine we_bin ?_
    refine we_t1 (x := "int") (id := "int") rfl B.int bt_int ?_
    refine we_var 2 rfl (by walk_at "vis") rfl ?_
    refine ⟨_, .inl rfl, ?_⟩
    refine c_int ?_
    refine we_var 1 rfl (by walk_at "vis") rfl ?_
    refine ⟨_, _, .inl rfl, .inl rfl, ?_⟩
    refine opw_mod hm0 ?_
    exact ⟨_, rfl, h⟩
  · have hc : ¬ 1000000000000000000 ≤ cell := by
      have := of_decide_eq_false hd
      exact this
    rw [if_neg hc] at h
    refine wb_nil ?_
    refine wb_cons (ws_setG ?_)
    refine we_bin ?_
    refine we_t1 (x := "int") (id := "int") rfl B.int bt_int ?_
    refine we_bin ?_
    refine we_bin ?_
    refine we_bin ?_
    refine we_ix (fun _ _ => rfl) ?_
    refine we_var 0 rfl (by walk_at "vis") rfl ?_
    refine we_int ?_
    refine ⟨_, _, .inr ⟨b, rfl, bxH_b⟩, .inl rfl, ?_⟩
    refine ixw_lst (d := .int st) rfl ?_
    refine we_int ?_
    refine ⟨_, _, .inl rfl, .inl rfl, ?_⟩
    refine opw_mul (.inr ⟨by decide, by decide⟩) ?_
    refine we_bin ?_
    refine we_var 2 rfl (by walk_at "vis") rfl ?_
    refine we_int ?_
    refine ⟨_, _, .inl rfl, .inl rfl, ?_⟩
    refine opw_mul (.inr ⟨by decide, by decide⟩) ?_
    refine ⟨_, _, .inl rfl, .inl rfl, ?_⟩
    refine opw_add ?_
    refine we_int ?_
    refine ⟨_, _, .inl rfl, .inl rfl, ?_⟩
    refine opw_add ?_
    refine ⟨_, .inl rfl, ?_⟩
    refine c_int ?_
    refine we_int ?_
    refine ⟨_, _, .inl rfl, .inl rfl, ?_⟩
    refine opw_mod (by decide) ?_
    refine ⟨_, _, rfl, ?_⟩
    refine we_var 0 rfl (by walk_at "vis") rfl ?_
    refine ⟨b, rfl, ?_⟩
    refine we_int ?_
    refine ⟨0, _, 0, rfl, bxH_b, rfl, ?_⟩
    dsimp only
    rw [show ([D.int st, D.adr g, D.int ix].set 0 (D.int ((st * 48271 + cell * 69621 + 11) % 2147483647))) = [D.int ((st * 48271 + cell * 69621 + 11) % 2147483647), D.adr g, D.int ix] from rfl, bxH_setB]
    refine wb_cons (ws_setG ?_)
    refine we_bin ?_
    refine we_ix (fun _ _ => rfl) ?_
    refine we_var 0 rfl (by walk_at "vis") rfl ?_
    refine we_int ?_
    refine ⟨_, _, .inr ⟨b, rfl, bxH_b⟩, .inl rfl, ?_⟩
    refine ixw_lst (d := .int ix) rfl ?_
    refine we_int ?_
    refine ⟨_, _, .inl rfl, .inl rfl, ?_⟩
    refine opw_add ?_
    refine ⟨_, _, rfl, ?_⟩
    refine we_var 0 rfl (by walk_at "vis") rfl ?_
    refine ⟨b, rfl, ?_⟩
    refine we_int ?_
    refine ⟨2, _, 2, rfl, bxH_b, rfl, ?_⟩
    dsimp only
    rw [show ([D.int ((st * 48271 + cell * 69621 + 11) % 2147483647), D.adr g, D.int ix].set 2 (D.int (ix + 1))) = [D.int ((st * 48271 + cell * 69621 + 11) % 2147483647), D.adr g, D.int (ix + 1)] from rfl, bxH_setB]
    refine wb_cons (ws_ret ?_)
    refine we_bin ?_
    refine we_t1 (x := "int") (id := "int") rfl B.int bt_int ?_
    refine we_bin ?_
    refine we_ix (fun _ _ => rfl) ?_
    refine we_var 0 rfl (by walk_at "vis") rfl ?_
    refine we_int ?_
    refine ⟨_, _, .inr ⟨b, rfl, bxH_b⟩, .inl rfl, ?_⟩
    refine ixw_lst (d := .int ((st * 48271 + cell * 69621 + 11) % 2147483647)) rfl ?_
    refine we_int ?_
    refine ⟨_, _, .inl rfl, .inl rfl, ?_⟩
    refine opw_fdiv ⟨by decide, by decide⟩ ?_
    refine ⟨_, .inl rfl, ?_⟩
    refine c_int ?_
    refine we_var 1 rfl (by walk_at "vis") rfl ?_
    refine ⟨_, _, .inl rfl, .inl rfl, ?_⟩
    refine opw_mod hm0 ?_
    exact ⟨_, rfl, h⟩
theorem ok_is_number {f : Addr} {fd : FuncData} (F : Fun K "is_number" "is_number" s_is_number f fd) (B : Bn mg) : FnOk P w K mg base (L2.CX P w) 3 f fd ["value", "lowest", "highest"] (spD K (FM cx (A := Int × Int × Int) (R := Bool) (fun a => [eI a.1, eI a.2.1, eI a.2.2]) (fun v => .sh (eB v)) (fun a => .ok (m_is_number a.1 a.2.1 a.2.2)))) := by
  refine def_ok F sc_is_number (fun ds G post px h => ?_) (fun cdv A outer s H E F0 T hr ds G post px h tk hp => ?_)
  · obtain ⟨_, rfl, _⟩ := h; rfl
  obtain ⟨⟨value1, lowest2, highest3⟩, rfl, h⟩ := h
  unfold m_is_number at h
  try dsimp only at h
  have nd := sc_is_number.nd
  refine wb_env [.sh (eI value1), .sh (eI lowest2), .sh (eI highest3)] rfl ?_
  -- 87
  refine wb_cons (ws_ret ?_)
  refine we_andP (c2 := (!false) && ((decide (lowest2 ≤ value1)) && (decide (value1 ≤ highest3)))) ?_
  refine we_isi rfl B.isinstance bt_isinstance rfl B.int bt_int ?_
  refine we_var 0 rfl (by walk_at "vis") rfl ?_
  refine ⟨_, _, _, .inl rfl, rfl, kt_int_int, ?_⟩
  refine ⟨_, rfl, fun _ => ?_, ?_⟩
  · skip
    refine we_andP (c2 := (decide (lowest2 ≤ value1)) && (decide (value1 ≤ highest3))) ?_
    refine we_not ?_
    refine we_isi rfl B.isinstance bt_isinstance rfl B.bool bt_bool ?_
    refine we_var 0 rfl (by walk_at "vis") rfl ?_
    refine ⟨_, _, _, .inl rfl, rfl, kt_int_bool, ?_⟩
    refine ⟨_, rfl, ?_⟩
    refine ⟨_, rfl, fun _ => ?_, ?_⟩
    · skip
      refine we_one ?_
      refine we_chainI (fun i j R q => opw_le q) (fun i j R q => opw_le q) ?_
      refine we_var 1 rfl (by walk_at "vis") rfl ?_
      refine we_var 0 rfl (by walk_at "vis") rfl ?_
      refine ⟨_, _, highest3, rfl, rfl, fun _ => ?_, ?_⟩
      · skip
        refine we_var 2 rfl (by walk_at "vis") rfl ?_
        exact ⟨rfl, rfl, rfl⟩
      exact ⟨rfl, rfl, rfl⟩
    exact ⟨rfl, rfl, rfl⟩
  refine ⟨_, rfl, ?_⟩
  exact h
theorem ok_Ruler_init {f : Addr} {fd : FuncData} (F : Fun K "__init__" "Ruler.__init__" s_Ruler_init f fd) (B : Bn mg) (c_is_number : Cal P w K mg base "is_number" 3 ["value", "lowest", "highest"] (FM cx (A := Int × Int × Int) (R := Bool) (fun a => [eI a.1, eI a.2.1, eI a.2.2]) (fun v => .sh (eB v)) (fun a => .ok (m_is_number a.1 a.2.1 a.2.2)))) (cl_Ruler : Cl_Ruler K C_Ruler) {t_MAX_ERROR : Tok} (m_MAX_ERROR : mg "MAX_ERROR" = some (.int 9 t_MAX_ERROR)) {t_MAX_LENGTH : Tok} (m_MAX_LENGTH : mg "MAX_LENGTH" = some (.int 300 t_MAX_LENGTH)) {t_MAX_MARKS : Tok} (m_MAX_MARKS : mg "MAX_MARKS" = some (.int 12 t_MAX_MARKS)) {t_MIN_MARKS : Tok} (m_MIN_MARKS : mg "MIN_MARKS" = some (.int 2 t_MIN_MARKS)) (xw_InvalidRuler : XK2 P K mg "InvalidRuler" "part" "index" (cx 1)) : FnOk P w K mg base (L2.CX P w) 5 f fd ["self", "marks", "error"] (spI K C_Ruler (FMI cx (A := (List Int) × Int) (R := Rul) (fun a => [(eT eI) a.1, eI a.2]) (fun r => [.int r.error, .tup (r.marks.map D.int)]) (fun a => mk_Ruler a.1 a.2))) := by
  obtain ⟨q_Ruler_0, sl_Ruler_0⟩ := cl_Ruler.s0
  obtain ⟨q_Ruler_1, sl_Ruler_1⟩ := cl_Ruler.s1
  have nd := sc_Ruler_init.nd
  refine init2r_ok F sc_Ruler_init cl_Ruler.cls sl_Ruler_1 sl_Ruler_0 (fun ds G post px h => ?_) ((defBody s_Ruler_init).take 3) ((defBody s_Ruler_init).getD 3 (.Pass ⟨0, 0, 0, 0⟩)) ((defBody s_Ruler_init).getD 4 (.Pass ⟨0, 0, 0, 0⟩)) 1 2 rfl (fun cdv A outer s H E F0 T hr px => ⟨SlX.ps_sl (pe_var rfl (by walk_at "vis")) (pe_var rfl (by walk_at "vis")), SlX.ps_sl (pe_var rfl (by walk_at "vis")) (pe_var rfl (by walk_at "vis")), fun a0 ds G post h tk hp => ?_⟩)
  · obtain ⟨_, rfl, _⟩ := h; rfl
  obtain ⟨⟨marks1, error2⟩, rfl, h⟩ := h
  unfold mk_Ruler at h
  try dsimp only at h
  refine wb_env [.sh (.adr a0), .sh ((eT eI) marks1), .sh (eI error2), .no, .no, .no] rfl ?_
  -- 92
  refine wb_forO (β := Rul) [3, 4] (σT := Unit) (fun s3 => [.sh (.adr a0), .sh ((eT eI) marks1), .sh (eI error2), .no, .no, .no]) (fun s3 => G) (eP eI eI) hp rfl ?_
  refine ti_enumT (f := eI) rfl B.enumerate ?_
  refine we_var 1 rfl (by walk_at "vis") rfl ?_
  refine ⟨marks1, _, rfl, fun hl6 => ?_⟩
  refine ⟨(penum marks1), (), _, _, _, _, rfl, (.eq (.eq (.eq (.no (.no (.no .nil)))))), rfl, h, fun s3 x5 Q' h => ?_, fun s4 h => ?_⟩
  · skip
    refine wg_pair 3 4 rfl nd rfl rfl (by walk_at "vis") (by walk_at "vis") (by decide) (by decide) (lt_ rfl) (lt_ rfl) ?_
    refine wb_env [.sh (.adr a0), .sh ((eT eI) marks1), .sh (eI error2), .sh (eI x5.1), .sh (eI x5.2), .no] rfl ?_
    -- 93
    refine wb_cons (ws_set 5 nd rfl (by walk_at "vis") ?_)
    refine we_ifN eI ?_
    refine wt_cmp (nomark _) ?_
    refine we_var 3 rfl (by walk_at "vis") rfl ?_
    refine we_int ?_
    refine ⟨_, _, .inl rfl, .inl rfl, ?_⟩
    refine opw_eqI ?_
    refine ⟨_, rfl, ?_⟩
    refine ⟨_, _, _, _, _, _, h, fun _ Q' h => ?_, fun _ Q' h => ?_, fun i7 h => ?_⟩
    · skip
      refine we_int ?_
      exact ⟨_, rfl, rfl, rfl, h⟩
    · skip
      refine we_bin ?_
      refine we_ix (fun _ _ => rfl) ?_
      refine we_var 1 rfl (by walk_at "vis") rfl ?_
      refine we_bin ?_
      refine we_var 3 rfl (by walk_at "vis") rfl ?_
      refine we_int ?_
      refine ⟨_, _, .inl rfl, .inl rfl, ?_⟩
      refine opw_sub ?_
      obtain ⟨x8, hx8, h⟩ := Out.gt h
      refine ⟨_, _, .inl rfl, .inl rfl, ?_⟩
      refine t_ixT (f := eI) hx8 ?_
      refine we_int ?_
      refine ⟨_, _, .inl rfl, .inl rfl, ?_⟩
      refine opw_add ?_
      exact ⟨_, rfl, rfl, rfl, h⟩
    refine ⟨lt_ rfl, _, rfl, ?_⟩
    refine wb_env [.sh (.adr a0), .sh ((eT eI) marks1), .sh (eI error2), .sh (eI x5.1), .sh (eI x5.2), .sh (eI i7)] rfl ?_
    -- 94
    refine wb_cons (ws_if ?_)
    refine wt_w ?_
    refine ww_orB ?_
    refine wt_cmp (nomark _) ?_
    refine we_var 3 rfl (by walk_at "vis") rfl ?_
    refine we_globI rfl m_MAX_MARKS ?_
    refine ⟨_, _, .inl rfl, .inl rfl, ?_⟩
    refine opw_eqI ?_
    refine ⟨_, rfl, ?_⟩
    refine ⟨(!(m_is_number x5.2 i7 (if (decide (x5.1 = (0 : Int))) = true then (0 : Int) else (300 : Int)))), fun _ => ?_, ?_⟩
    · skip
      refine ww_or1 ?_
      refine wt_not ?_
      refine wt_val (fun _ => rfl) ?_
      refine we_cal tk c_is_number hr rfl ?_
      refine wa_cons ?_
      refine we_var 4 rfl (by walk_at "vis") rfl ?_
      refine ⟨_, _, rfl, ?_⟩
      refine wa_cons ?_
      refine we_var 5 rfl (by walk_at "vis") rfl ?_
      refine ⟨_, _, rfl, ?_⟩
      refine wa_cons ?_
      refine we_ifP (en := eI) (va := (0 : Int)) (vb := (300 : Int)) ?_
      refine wt_cmp (nomark _) ?_
      refine we_var 3 rfl (by walk_at "vis") rfl ?_
      refine we_int ?_
      refine ⟨_, _, .inl rfl, .inl rfl, ?_⟩
      refine opw_eqI ?_
      refine ⟨_, rfl, ?_⟩
      refine ⟨fun _ => ?_, fun _ => ?_, ?_⟩
      · skip
        refine we_int ?_
        exact ⟨rfl, rfl, rfl⟩
      · skip
        refine we_globI rfl m_MAX_LENGTH ?_
        exact ⟨rfl, rfl, rfl⟩
      refine ⟨_, _, rfl, ?_⟩
      refine wa_nil ?_
      refine ⟨(x5.2, i7, if (decide (x5.1 = (0 : Int))) = true then (0 : Int) else (300 : Int)), rfl, ?_⟩
      refine ⟨_, rfl, ?_⟩
      exact ⟨rfl, rfl, rfl⟩
    refine ⟨fun hc => ?_, fun hc => ?_⟩
    · skip
      have h := (Out.iteb h).1 hc
      -- 95
      refine wb_cons (ws_raiseK2 (k := 0) xw_InvalidRuler (hr.mono (by omega)) rfl tk rfl ?_)
      refine we_str ?_
      refine ⟨_, rfl, ?_⟩
      refine we_var 3 rfl (by walk_at "vis") rfl ?_
      refine ⟨_, rfl, ?_⟩
      exact h
    have h := (Out.iteb h).2 hc
    refine wb_nil ?_
    exact wb_nil ⟨(), (.eq (.eq (.eq (.no (.no (.no .nil)))))), rfl, h⟩
  -- 96
  refine wb_cons (ws_if ?_)
  refine wt_cmp (nomark _) ?_
  refine we_b1 (x := "len") (id := "len") rfl B.len bt_len ?_
  refine we_var 1 rfl (by walk_at "vis") rfl ?_
  refine ⟨_, .inl rfl, ?_⟩
  refine t_lenT (f := eI) marks1 ?_
  refine we_globI rfl m_MIN_MARKS ?_
  refine ⟨_, _, .inl rfl, .inl rfl, ?_⟩
  refine opw_lt ?_
  refine ⟨_, rfl, ?_⟩
  refine ⟨fun hc => ?_, fun hc => ?_⟩
  · skip
    have h := (Out.iteb h).1 hc
    -- 97
    refine wb_cons (ws_raiseK2 (k := 0) xw_InvalidRuler (hr.mono (by omega)) rfl tk rfl ?_)
    refine we_str ?_
    refine ⟨_, rfl, ?_⟩
    refine we_b1 (x := "len") (id := "len") rfl B.len bt_len ?_
    refine we_var 1 rfl (by walk_at "vis") rfl ?_
    refine ⟨_, .inl rfl, ?_⟩
    refine t_lenT (f := eI) marks1 ?_
    refine ⟨_, rfl, ?_⟩
    exact h
  have h := (Out.iteb h).2 hc
  refine wb_nil ?_
  -- 98
  refine wb_cons (ws_if ?_)
  refine wt_not ?_
  refine wt_val (fun _ => rfl) ?_
  refine we_cal tk c_is_number hr rfl ?_
  refine wa_cons ?_
  refine we_var 2 rfl (by walk_at "vis") rfl ?_
  refine ⟨_, _, rfl, ?_⟩
  refine wa_cons ?_
  refine we_int ?_
  refine ⟨_, _, rfl, ?_⟩
  refine wa_cons ?_
  refine we_globI rfl m_MAX_ERROR ?_
  refine ⟨_, _, rfl, ?_⟩
  refine wa_nil ?_
  refine ⟨(error2, (0 : Int), (9 : Int)), rfl, ?_⟩
  refine ⟨_, rfl, ?_⟩
  refine ⟨fun hc => ?_, fun hc => ?_⟩
  · skip
    have h := (Out.iteb h).1 hc
    -- 99
    refine wb_cons (ws_raiseK2 (k := 0) xw_InvalidRuler (hr.mono (by omega)) rfl tk rfl ?_)
    refine we_str ?_
    refine ⟨_, rfl, ?_⟩
    refine we_int ?_
    refine ⟨_, rfl, ?_⟩
    exact h
  have h := (Out.iteb h).2 hc
  refine wb_nil ?_
  exact wb_nil ⟨rfl, _, _, rfl, rfl, h⟩
theorem ok_Ruler_marks {f : Addr} {fd : FuncData} (F : Fun K "marks" "Ruler.marks" s_Ruler_marks f fd) (B : Bn mg) (cl_Ruler : Cl_Ruler K C_Ruler) : FnOk P w K mg base (L2.CX P w) 3 f fd ["self"] (spD K (FM cx (A := Rul) (R := List Int) (fun a => [(eRul C_Ruler) a]) (fun v => .sh ((eT eI) v)) (fun a => .ok (m_Ruler_marks a)))) := by
  refine def_ok F sc_Ruler_marks (fun ds G post px h => ?_) (fun cdv A outer s H E F0 T hr ds G post px h tk hp => ?_)
  · obtain ⟨_, rfl, _⟩ := h; rfl
  obtain ⟨self1, rfl, h⟩ := h
  unfold m_Ruler_marks at h
  try dsimp only at h
  have nd := sc_Ruler_marks.nd
  obtain ⟨q_Ruler_0, sl_Ruler_0⟩ := cl_Ruler.s0
  obtain ⟨q_Ruler_1, sl_Ruler_1⟩ := cl_Ruler.s1
  refine wb_env [.sh ((eRul C_Ruler) self1)] rfl ?_
  -- 105
  refine wb_cons (ws_ret ?_)
  refine we_fld 1 cl_Ruler.cls sl_Ruler_1 ?_
  refine we_var 0 rfl (by walk_at "vis") rfl ?_
  refine ⟨_, _, rfl, rfl, ?_⟩
  refine ⟨_, rfl, ?_⟩
  exact h
theorem ok_Ruler_error {f : Addr} {fd : FuncData} (F : Fun K "error" "Ruler.error" s_Ruler_error f fd) (B : Bn mg) (cl_Ruler : Cl_Ruler K C_Ruler) : FnOk P w K mg base (L2.CX P w) 3 f fd ["self"] (spD K (FM cx (A := Rul) (R := Int) (fun a => [(eRul C_Ruler) a]) (fun v => .sh (eI v)) (fun a => .ok (m_Ruler_error a)))) := by
  refine def_ok F sc_Ruler_error (fun ds G post px h => ?_) (fun cdv A outer s H E F0 T hr ds G post px h tk hp => ?_)
  · obtain ⟨_, rfl, _⟩ := h; rfl
  obtain ⟨self1, rfl, h⟩ := h
  unfold m_Ruler_error at h
  try dsimp only at h
  have nd := sc_Ruler_error.nd
  obtain ⟨q_Ruler_0, sl_Ruler_0⟩ := cl_Ruler.s0
  obtain ⟨q_Ruler_1, sl_Ruler_1⟩ := cl_Ruler.s1
  refine wb_env [.sh ((eRul C_Ruler) self1)] rfl ?_
  -- 109
  refine wb_cons (ws_ret ?_)
  refine we_fld 0 cl_Ruler.cls sl_Ruler_0 ?_
  refine we_var 0 rfl (by walk_at "vis") rfl ?_
  refine ⟨_, _, rfl, rfl, ?_⟩
  refine ⟨_, rfl, ?_⟩
  exact h
theorem ok_Ruler_len {f : Addr} {fd : FuncData} (F : Fun K "__len__" "Ruler.__len__" s_Ruler_len f fd) (B : Bn mg) (cl_Ruler : Cl_Ruler K C_Ruler) : FnOk P w K mg base (L2.CX P w) 3 f fd ["self"] (spD K (FM cx (A := Rul) (R := Int) (fun a => [(eRul C_Ruler) a]) (fun v => .sh (eI v)) (fun a => .ok (m_Ruler___len a)))) := by
  refine def_ok F sc_Ruler_len (fun ds G post px h => ?_) (fun cdv A outer s H E F0 T hr ds G post px h tk hp => ?_)
  · obtain ⟨_, rfl, _⟩ := h; rfl
  obtain ⟨self1, rfl, h⟩ := h
  unfold m_Ruler___len at h
  try dsimp only at h
  have nd := sc_Ruler_len.nd
  obtain ⟨q_Ruler_0, sl_Ruler_0⟩ := cl_Ruler.s0
  obtain ⟨q_Ruler_1, sl_Ruler_1⟩ := cl_Ruler.s1
  refine wb_env [.sh ((eRul C_Ruler) self1)] rfl ?_
  -- 124
  refine wb_cons (ws_ret ?_)
  refine we_b1 (x := "len") (id := "len") rfl B.len bt_len ?_
  refine we_fld 1 cl_Ruler.cls sl_Ruler_1 ?_
  refine we_var 0 rfl (by walk_at "vis") rfl ?_
  refine ⟨_, _, rfl, rfl, ?_⟩
  refine ⟨_, .inl rfl, ?_⟩
  refine t_lenT (f := eI) self1.marks ?_
  refine ⟨_, rfl, ?_⟩
  exact h
theorem ok_Ruler_eq {f : Addr} {fd : FuncData} (F : Fun K "__eq__" "Ruler.__eq__" s_Ruler_eq f fd) (B : Bn mg) (cl_Ruler : Cl_Ruler K C_Ruler) (mc_Ruler : mg "Ruler" = some (.ref C_Ruler)) (p_Ruler_error : PropD P w K mg base C_Ruler "error" 3 (FM cx (A := Rul) (R := Int) (fun a => [(eRul C_Ruler) a]) (fun v => .sh (eI v)) (fun a => .ok (m_Ruler_error a)))) (p_Ruler_marks : PropD P w K mg base C_Ruler "marks" 3 (FM cx (A := Rul) (R := List Int) (fun a => [(eRul C_Ruler) a]) (fun v => .sh ((eT eI) v)) (fun a => .ok (m_Ruler_marks a)))) : FnOk P w K mg base (L2.CX P w) 6 f fd ["self", "other"] (spD K (FM cx (A := Rul × Rul) (R := Bool) (fun a => [(eRul C_Ruler) a.1, (eRul C_Ruler) a.2]) (fun v => .sh (eB v)) (fun a => .ok (m_Ruler___eq a.1 a.2)))) := by
  refine def_ok F sc_Ruler_eq (fun ds G post px h => ?_) (fun cdv A outer s H E F0 T hr ds G post px h tk hp => ?_)
  · obtain ⟨_, rfl, _⟩ := h; rfl
  obtain ⟨⟨self1, other2⟩, rfl, h⟩ := h
  unfold m_Ruler___eq at h
  try dsimp only at h
  have nd := sc_Ruler_eq.nd
  obtain ⟨q_Ruler_0, sl_Ruler_0⟩ := cl_Ruler.s0
  obtain ⟨q_Ruler_1, sl_Ruler_1⟩ := cl_Ruler.s1
  refine wb_env [.sh ((eRul C_Ruler) self1), .sh ((eRul C_Ruler) other2)] rfl ?_
  -- 127
  refine wb_cons (ws_ret ?_)
  refine we_andP (c2 := (decide (self1.marks = (m_Ruler_marks other2))) && (decide (self1.error = m_Ruler_error other2))) ?_
  refine we_isiI rfl B.isinstance bt_isinstance rfl mc_Ruler cl_Ruler.cls cl_Ruler.isi ?_
  refine we_var 1 rfl (by walk_at "vis") rfl ?_
  refine ⟨_, _, rfl, cl_Ruler.same, ?_⟩
  refine ⟨_, rfl, fun _ => ?_, ?_⟩
  · skip
    refine we_andP (c2 := decide (self1.error = m_Ruler_error other2)) ?_
    refine we_cmp (nomark _) ?_
    refine we_fld 1 cl_Ruler.cls sl_Ruler_1 ?_
    refine we_var 0 rfl (by walk_at "vis") rfl ?_
    refine ⟨_, _, rfl, rfl, ?_⟩
    refine we_prop cl_Ruler.cls p_Ruler_marks hr ?_
    refine we_var 1 rfl (by walk_at "vis") rfl ?_
    refine ⟨_, rfl, other2, rfl, ?_⟩
    refine ⟨_, _, .inl rfl, .inl rfl, ?_⟩
    refine opw_eqC (eqc_tup eqc_int) (by exact hr.units) self1.marks (m_Ruler_marks other2) ?_
    refine ⟨_, rfl, fun _ => ?_, ?_⟩
    · skip
      refine we_one ?_
      refine we_cmp (nomark _) ?_
      refine we_fld 0 cl_Ruler.cls sl_Ruler_0 ?_
      refine we_var 0 rfl (by walk_at "vis") rfl ?_
      refine ⟨_, _, rfl, rfl, ?_⟩
      refine we_prop cl_Ruler.cls p_Ruler_error hr ?_
      refine we_var 1 rfl (by walk_at "vis") rfl ?_
      refine ⟨_, rfl, other2, rfl, ?_⟩
      refine ⟨_, _, .inl rfl, .inl rfl, ?_⟩
      refine opw_eqI ?_
      exact ⟨rfl, rfl, rfl⟩
    exact ⟨rfl, rfl, rfl⟩
  refine ⟨_, rfl, ?_⟩
  exact h
theorem ok_is_name {f : Addr} {fd : FuncData} (F : Fun K "is_name" "is_name" s_is_name f fd) (B : Bn mg) {t_LETTERS : Tok} (m_LETTERS : mg "LETTERS" = some (.str "abcdefghijklmnopqrstuvwxyz" t_LETTERS)) {t_MAX_LETTERS : Tok} (m_MAX_LETTERS : mg "MAX_LETTERS" = some (.int 8 t_MAX_LETTERS)) : FnOk P w K mg base (L2.CX P w) 3 f fd ["name"] (spD K (FM cx (A := S) (R := Bool) (fun a => [eZ a]) (fun v => .sh (eB v)) (fun a => m_is_name a))) := by
  refine def_ok F sc_is_name (fun ds G post px h => ?_) (fun cdv A outer s H E F0 T hr ds G post px h tk hp => ?_)
  · obtain ⟨_, rfl, _⟩ := h; rfl
  obtain ⟨name1, rfl, h⟩ := h
  unfold m_is_name at h
  try dsimp only at h
  have nd := sc_is_name.nd
  refine wb_env [.sh (eZ name1), .no] rfl ?_
  -- 30
  refine wb_cons (ws_if ?_)
  refine wt_w ?_
  refine ww_orN ?_
  refine wt_not ?_
  refine wt_val (fun _ => rfl) ?_
  refine we_isi rfl B.isinstance bt_isinstance rfl B.str bt_str ?_
  refine we_var 0 rfl (by walk_at "vis") rfl ?_
  refine ⟨_, _, _, .inl rfl, rfl, kt_str_str, ?_⟩
  refine ⟨_, rfl, ?_⟩
  refine ⟨_, _, _, _, _, h, fun _ Q' h => ?_, fun c2 h => ?_⟩
  · skip
    refine ww_or1 ?_
    refine wt_not ?_
    refine wt_chainI (fun i j R q => opw_le q) (fun i j R q => opw_le q) ?_
    refine we_int ?_
    refine we_b1 (x := "len") (id := "len") rfl B.len bt_len ?_
    refine we_var 0 rfl (by walk_at "vis") rfl ?_
    refine ⟨_, .inl rfl, ?_⟩
    obtain ⟨g3, h⟩ := Out.gd h
    refine t_lenS (x := name1) g3 ?_
    refine ⟨_, _, (8 : Int), rfl, rfl, fun _ => ?_, ?_⟩
    · skip
      refine we_globI rfl m_MAX_LETTERS ?_
      exact ⟨rfl, rfl, rfl⟩
    exact ⟨rfl, rfl, h⟩
  refine ⟨fun hc => ?_, fun hc => ?_⟩
  · skip
    have h := (Out.iteb h).1 hc
    -- 31
    refine wb_cons (ws_ret ?_)
    refine we_bl ?_
    refine ⟨_, rfl, ?_⟩
    exact h
  have h := (Out.iteb h).2 hc
  refine wb_nil ?_
  -- 32
  refine wb_cons (ws_ret ?_)
  refine we_cmp (nomark _) ?_
  refine we_lcQ [("letter", 1)] rfl nd (blkOk_by (by rfl)) (lc1_pre [("letter", 1)] [.sh (eZ name1), .no] (en := eC) eC (fun x4 => !decide (x4 ∈ chrs z_abcdefghijklmnopqrst)) (fun (x4 : Chr) => x4) ?_)
  refine ti_str ?_
  refine we_var 0 rfl (by walk_at "vis") rfl ?_
  refine ⟨name1, _, rfl, ?_⟩
  obtain ⟨g5, h⟩ := Out.gd h
  refine ⟨(chrs name1), rfl, g5, Wk.refl _, fun x4 => ?_, ?_⟩
  · skip
    rintro Y ⟨s1, H1, C1, cl, fp, rfl⟩
    refine wg_name 1 nd rfl (by walk_at "vis") (by decide) (lt_ rfl) ?_
    rintro Y ⟨s1, H1, C1, cl, fp, rfl⟩
    refine wt_cmp rfl ?_
    refine we_var 1 rfl (by walk_at "vis") rfl ?_
    refine we_globS rfl m_LETTERS ?_
    refine ⟨_, _, .inl rfl, .inl rfl, ?_⟩
    refine t_ninS (c := x4) (x := z_abcdefghijklmnopqrst) ?_
    refine ⟨_, rfl, ?_⟩
    refine ⟨rfl, fun _ => ?_, fun _ => ?_⟩
    · skip
      rintro Y ⟨s1, H1, C1, cl, fp, rfl⟩
      refine we_var 1 rfl (by walk_at "vis") rfl ?_
      exact ⟨_, rfl, Wk.refl _, rfl⟩
    exact ⟨Wk.refl _, rfl⟩
  refine we_lst ?_
  refine wa_nil ?_
  refine ⟨by decide, ?_⟩
  refine ⟨_, _, .inl rfl, .inl rfl, ?_⟩
  refine opw_eqC (eqc_lst eqc_chr) (by exact hr.units) (((chrs name1).filter (fun (x4 : Chr) => !decide (x4 ∈ chrs z_abcdefghijklmnopqrst))).map (fun (x4 : Chr) => x4)) ([] : List Chr) ?_
  refine ⟨_, rfl, ?_⟩
  exact h
theorem ok_Rack_init {f : Addr} {fd : FuncData} (F : Fun K "__init__" "Rack.__init__" s_Rack_init f fd) (B : Bn mg) (c_is_name : Cal P w K mg base "is_name" 3 ["name"] (FM cx (A := S) (R := Bool) (fun a => [eZ a]) (fun v => .sh (eB v)) (fun a => m_is_name a))) (cl_Rack : Cl_Rack K C_Rack) {t_MAX_RULERS : Tok} (m_MAX_RULERS : mg "MAX_RULERS" = some (.int 6 t_MAX_RULERS)) (xw_InvalidRack : XK1 P K mg "InvalidRack" "name" (cx 2)) : FnOk P w K mg base (L2.CX P w) 5 f fd ["self", "rulers"] (spI K C_Rack (FMI cx (A := List (S × Rul)) (R := Rak) (fun a => [(eD kZ (eRul C_Ruler)) a]) (fun r => [eD kZ (eRul C_Ruler) r.held]) (fun a => mk_Rack a))) := by
  obtain ⟨q_Rack_0, sl_Rack_0⟩ := cl_Rack.s0
  have nd := sc_Rack_init.nd
  refine init1_ok F sc_Rack_init cl_Rack.cls sl_Rack_0 (fun ds G post px h => ?_) ((defBody s_Rack_init).take 2) ((defBody s_Rack_init).getD 2 (.Pass ⟨0, 0, 0, 0⟩)) (asgV ((defBody s_Rack_init).getD 2 (.Pass ⟨0, 0, 0, 0⟩))) rfl (fun cdv A outer s H E F0 T hr px => ⟨SlX.ps_sl (pe_var rfl (by walk_at "vis")) peR, fun a0 ds G post h tk hp => ?_⟩)
  · obtain ⟨_, rfl, _⟩ := h; rfl
  obtain ⟨rulers1, rfl, h⟩ := h
  unfold mk_Rack at h
  try dsimp only at h
  refine wb_env [.sh (.adr a0), .sh ((eD kZ (eRul C_Ruler)) rulers1), .no, .no] rfl ?_
  -- 37
  refine wb_forO (β := Rak) [2, 3] (σT := Unit) (fun s2 => [.sh (.adr a0), .sh ((eD kZ (eRul C_Ruler)) rulers1), .no, .no]) (fun s2 => G) (eP eI eZ) hp rfl ?_
  refine ti_enumD (k := kZ) (f := (eRul C_Ruler)) rfl B.enumerate ?_
  refine we_var 1 rfl (by walk_at "vis") rfl ?_
  refine ⟨rulers1, _, rfl, fun hl5 => ?_⟩
  refine ⟨(penum (rulers1.map (·.1))), (), _, _, _, _, rfl, (.eq (.eq (.no (.no .nil)))), rfl, h, fun s2 x4 Q' h => ?_, fun s3 h => ?_⟩
  · skip
    refine wg_pair 2 3 rfl nd rfl rfl (by walk_at "vis") (by walk_at "vis") (by decide) (by decide) (lt_ rfl) (lt_ rfl) ?_
    refine wb_env [.sh (.adr a0), .sh ((eD kZ (eRul C_Ruler)) rulers1), .sh (eI x4.1), .sh (eZ x4.2)] rfl ?_
    -- 38
    refine wb_cons (ws_if ?_)
    refine wt_w ?_
    refine ww_orN ?_
    refine wt_cmp (nomark _) ?_
    refine we_var 2 rfl (by walk_at "vis") rfl ?_
    refine we_globI rfl m_MAX_RULERS ?_
    refine ⟨_, _, .inl rfl, .inl rfl, ?_⟩
    refine opw_eqI ?_
    refine ⟨_, rfl, ?_⟩
    refine ⟨_, _, _, _, _, h, fun _ Q' h => ?_, fun c6 h => ?_⟩
    · skip
      refine ww_or1 ?_
      refine wt_not ?_
      refine wt_val (fun _ => rfl) ?_
      refine we_cal tk c_is_name hr rfl ?_
      refine wa_cons ?_
      refine we_var 3 rfl (by walk_at "vis") rfl ?_
      refine ⟨_, _, rfl, ?_⟩
      refine wa_nil ?_
      refine ⟨x4.2, rfl, (Out.sb h).imp (fun r7 h => ?_) (fun _ he => he)⟩
      refine ⟨_, rfl, ?_⟩
      exact ⟨rfl, rfl, h⟩
    refine ⟨fun hc => ?_, fun hc => ?_⟩
    · skip
      have h := (Out.iteb h).1 hc
      -- 39
      refine wb_cons (ws_raiseK1 (k := 0) xw_InvalidRack (hr.mono (by omega)) rfl tk rfl ?_)
      refine we_var 3 rfl (by walk_at "vis") rfl ?_
      refine ⟨_, rfl, ?_⟩
      exact h
    have h := (Out.iteb h).2 hc
    refine wb_nil ?_
    exact wb_nil ⟨(), (.eq (.eq (.no (.no .nil)))), rfl, h⟩
  -- 40
  refine wb_cons (ws_if ?_)
  refine wt_cmp (nomark _) ?_
  refine we_var 1 rfl (by walk_at "vis") rfl ?_
  refine we_lock ?_
  refine we_dnew ?_
  refine ⟨_, _, rfl, ?_⟩
  refine ⟨_, _, .inl rfl, .inl rfl, ?_⟩
  refine t_deq0 (k := kZ) (f := (eRul C_Ruler)) (by exact hr.units) rulers1 ?_
  refine ⟨_, rfl, ?_⟩
  refine ⟨fun hc => ?_, fun hc => ?_⟩
  · skip
    have h := (Out.iteb h).1 hc
    -- 41
    refine wb_cons (ws_raiseK1 (k := 0) xw_InvalidRack (hr.mono (by omega)) rfl tk rfl ?_)
    refine we_non ?_
    refine ⟨_, rfl, ?_⟩
    exact h
  have h := (Out.iteb h).2 hc
  refine wb_nil ?_
  refine wb_nil ?_
  refine we_lock ?_
  refine we_dcS [("name", 3)] [.sh (.adr a0), .sh ((eD kZ (eRul C_Ruler)) rulers1), .no, .no] (fun _ : Unit => G) (en := eZ) kZ (eRul C_Ruler) kZ_inj rfl nd (blkOk_by (by rfl)) ?_
  refine ti_lst (f := eZ) ?_
  refine we_b1 (x := "sorted") (id := "sorted") rfl B.sorted bt_sorted ?_
  refine we_var 1 rfl (by walk_at "vis") rfl ?_
  refine ⟨_, .inl rfl, ?_⟩
  obtain ⟨g9, h⟩ := Out.gd h
  refine t_sortedDS (f := (eRul C_Ruler)) rulers1 rfl g9 ?_
  refine ⟨(ssort (rulers1.map (·.1))), _, rfl, fun hl10 => ?_⟩
  refine ⟨_, (ssort (rulers1.map (·.1))), (), _, _, _, _, rfl, hl10, Wk.refl _, rfl, h, fun s11 x8 Q' h => ?_, fun l12 h => ?_⟩
  · skip
    rintro Y ⟨s1, H1, C1, cl, fp, rfl⟩
    refine wg_name 3 nd rfl (by walk_at "vis") (by decide) (lt_ rfl) ?_
    rintro Y ⟨s1, H1, C1, cl, fp, rfl⟩
    refine we_var 3 rfl (by walk_at "vis") rfl ?_
    refine ⟨x8, rfl, ?_⟩
    rintro Y ⟨s1, H1, C1, cl, fp, rfl⟩
    refine we_dget (k := kZ) (f := (eRul C_Ruler)) kZ_inj (by exact hr.units) (fun _ _ => rfl) ?_
    refine we_var 1 rfl (by walk_at "vis") rfl ?_
    refine we_var 3 rfl (by walk_at "vis") rfl ?_
    obtain ⟨x13, hx13, h⟩ := Out.gt h
    refine ⟨rulers1, x8, _, .inl rfl, rfl, hx13, ?_⟩
    exact ⟨x13, (), _, rfl, Wk.refl _, rfl, h⟩
  refine ⟨_, _, rfl, ?_⟩
  exact ⟨_, _, rfl, rfl, h⟩
theorem ok_Rack_names {f : Addr} {fd : FuncData} (F : Fun K "names" "Rack.names" s_Rack_names f fd) (B : Bn mg) (cl_Rack : Cl_Rack K C_Rack) : FnOk P w K mg base (L2.CX P w) 3 f fd ["self"] (spD K (FM cx (A := Rak) (R := List S) (fun a => [(eRak C_Rack C_Ruler) a]) (fun v => .sh ((eT eZ) v)) (fun a => .ok (m_Rack_names a)))) := by
  refine def_ok F sc_Rack_names (fun ds G post px h => ?_) (fun cdv A outer s H E F0 T hr ds G post px h tk hp => ?_)
  · obtain ⟨_, rfl, _⟩ := h; rfl
  obtain ⟨self1, rfl, h⟩ := h
  unfold m_Rack_names at h
  try dsimp only at h
  have nd := sc_Rack_names.nd
  obtain ⟨q_Rack_0, sl_Rack_0⟩ := cl_Rack.s0
  refine wb_env [.sh ((eRak C_Rack C_Ruler) self1)] rfl ?_
  -- 46
  refine wb_cons (ws_ret ?_)
  refine we_t1 (x := "tuple") (id := "tuple") rfl B.tuple bt_tuple ?_
  refine we_fld 0 cl_Rack.cls sl_Rack_0 ?_
  refine we_var 0 rfl (by walk_at "vis") rfl ?_
  refine ⟨_, _, rfl, rfl, ?_⟩
  refine ⟨_, .inl rfl, ?_⟩
  refine t_tupleD (k := kZ) (f := (eRul C_Ruler)) self1.held rfl ?_
  refine ⟨_, rfl, ?_⟩
  exact h
theorem ok_Rack_getitem {f : Addr} {fd : FuncData} (F : Fun K "__getitem__" "Rack.__getitem__" s_Rack_getitem f fd) (B : Bn mg) (cl_Rack : Cl_Rack K C_Rack) (xc_UnknownName : XC K mg "UnknownName" (cx 3)) : FnOk P w K mg base (L2.CX P w) 3 f fd ["self", "name"] (spD K (FM cx (A := Rak × S) (R := Rul) (fun a => [(eRak C_Rack C_Ruler) a.1, eZ a.2]) (fun v => .sh ((eRul C_Ruler) v)) (fun a => m_Rack___getitem a.1 a.2))) := by
  refine def_ok F sc_Rack_getitem (fun ds G post px h => ?_) (fun cdv A outer s H E F0 T hr ds G post px h tk hp => ?_)
  · obtain ⟨_, rfl, _⟩ := h; rfl
  obtain ⟨⟨self1, name2⟩, rfl, h⟩ := h
  unfold m_Rack___getitem at h
  try dsimp only at h
  have nd := sc_Rack_getitem.nd
  obtain ⟨q_Rack_0, sl_Rack_0⟩ := cl_Rack.s0
  refine wb_env [.sh ((eRak C_Rack C_Ruler) self1), .sh (eZ name2)] rfl ?_
  -- 53
  refine wb_cons (ws_if ?_)
  refine wt_cmp rfl ?_
  refine we_var 1 rfl (by walk_at "vis") rfl ?_
  refine we_fld 0 cl_Rack.cls sl_Rack_0 ?_
  refine we_var 0 rfl (by walk_at "vis") rfl ?_
  refine ⟨_, _, rfl, rfl, ?_⟩
  refine ⟨_, _, .inl rfl, .inl rfl, ?_⟩
  refine opw_dnin (k := kZ) (f := (eRul C_Ruler)) (kvs := self1.held) (x := name2) kZ_inj (by exact hr.units) ?_
  refine ⟨_, rfl, ?_⟩
  refine ⟨fun hc => ?_, fun hc => ?_⟩
  · skip
    have h := (Out.iteb h).1 hc
    -- 54
    exact wb_cons (ws_raise1 xc_UnknownName rfl tk rfl h)
  have h := (Out.iteb h).2 hc
  refine wb_nil ?_
  -- 55
  refine wb_cons (ws_ret ?_)
  refine we_dget (k := kZ) (f := (eRul C_Ruler)) kZ_inj (by exact hr.units) (fun _ _ => rfl) ?_
  refine we_fld 0 cl_Rack.cls sl_Rack_0 ?_
  refine we_var 0 rfl (by walk_at "vis") rfl ?_
  refine ⟨_, _, rfl, rfl, ?_⟩
  refine we_var 1 rfl (by walk_at "vis") rfl ?_
  obtain ⟨x3, hx3, h⟩ := Out.gt h
  refine ⟨self1.held, name2, _, .inl rfl, rfl, hx3, ?_⟩
  refine ⟨_, rfl, ?_⟩
  exact h
theorem ok_Rack_len {f : Addr} {fd : FuncData} (F : Fun K "__len__" "Rack.__len__" s_Rack_len f fd) (B : Bn mg) (cl_Rack : Cl_Rack K C_Rack) : FnOk P w K mg base (L2.CX P w) 3 f fd ["self"] (spD K (FM cx (A := Rak) (R := Int) (fun a => [(eRak C_Rack C_Ruler) a]) (fun v => .sh (eI v)) (fun a => .ok (m_Rack___len a)))) := by
  refine def_ok F sc_Rack_len (fun ds G post px h => ?_) (fun cdv A outer s H E F0 T hr ds G post px h tk hp => ?_)
  · obtain ⟨_, rfl, _⟩ := h; rfl
  obtain ⟨self1, rfl, h⟩ := h
  unfold m_Rack___len at h
  try dsimp only at h
  have nd := sc_Rack_len.nd
  obtain ⟨q_Rack_0, sl_Rack_0⟩ := cl_Rack.s0
  refine wb_env [.sh ((eRak C_Rack C_Ruler) self1)] rfl ?_
  -- 64
  refine wb_cons (ws_ret ?_)
  refine we_b1 (x := "len") (id := "len") rfl B.len bt_len ?_
  refine we_fld 0 cl_Rack.cls sl_Rack_0 ?_
  refine we_var 0 rfl (by walk_at "vis") rfl ?_
  refine ⟨_, _, rfl, rfl, ?_⟩
  refine ⟨_, .inl rfl, ?_⟩
  refine t_lenD (k := kZ) (f := (eRul C_Ruler)) self1.held ?_
  refine ⟨_, rfl, ?_⟩
  exact h
theorem ok_Rack_eq {f : Addr} {fd : FuncData} (F : Fun K "__eq__" "Rack.__eq__" s_Rack_eq f fd) (B : Bn mg) (cl_Rack : Cl_Rack K C_Rack) (cl_Ruler : Cl_Ruler K C_Ruler) (mc_Rack : mg "Rack" = some (.ref C_Rack)) (ne_Ruler : NeOf K C_Ruler) (p_Rack_names : PropD P w K mg base C_Rack "names" 3 (FM cx (A := Rak) (R := List S) (fun a => [(eRak C_Rack C_Ruler) a]) (fun v => .sh ((eT eZ) v)) (fun a => .ok (m_Rack_names a)))) (x_Rack_getitem : ItemD P w K mg base C_Rack 3 ["self", "name"] (FM cx (A := Rak × S) (R := Rul) (fun a => [(eRak C_Rack C_Ruler) a.1, eZ a.2]) (fun v => .sh ((eRul C_Ruler) v)) (fun a => m_Rack___getitem a.1 a.2))) (x_Ruler_eq : SpecD P w K mg base C_Ruler "__eq__" 6 ["self", "other"] (FM cx (A := Rul × Rul) (R := Bool) (fun a => [(eRul C_Ruler) a.1, (eRul C_Ruler) a.2]) (fun v => .sh (eB v)) (fun a => .ok (m_Ruler___eq a.1 a.2)))) : FnOk P w K mg base (L2.CX P w) 9 f fd ["self", "other"] (spD K (FM cx (A := Rak × Rak) (R := Bool) (fun a => [(eRak C_Rack C_Ruler) a.1, (eRak C_Rack C_Ruler) a.2]) (fun v => .sh (eB v)) (fun a => m_Rack___eq a.1 a.2))) := by
  refine def_ok F sc_Rack_eq (fun ds G post px h => ?_) (fun cdv A outer s H E F0 T hr ds G post px h tk hp => ?_)
  · obtain ⟨_, rfl, _⟩ := h; rfl
  obtain ⟨⟨self1, other2⟩, rfl, h⟩ := h
  unfold m_Rack___eq at h
  try dsimp only at h
  have nd := sc_Rack_eq.nd
  obtain ⟨q_Rack_0, sl_Rack_0⟩ := cl_Rack.s0
  obtain ⟨q_Ruler_0, sl_Ruler_0⟩ := cl_Ruler.s0
  obtain ⟨q_Ruler_1, sl_Ruler_1⟩ := cl_Ruler.s1
  refine wb_env [.sh ((eRak C_Rack C_Ruler) self1), .sh ((eRak C_Rack C_Ruler) other2), .no] rfl ?_
  -- 67
  refine wb_cons (ws_if ?_)
  refine wt_w ?_
  refine ww_orB ?_
  refine wt_not ?_
  refine wt_val (fun _ => rfl) ?_
  refine we_isiI rfl B.isinstance bt_isinstance rfl mc_Rack cl_Rack.cls cl_Rack.isi ?_
  refine we_var 1 rfl (by walk_at "vis") rfl ?_
  refine ⟨_, _, rfl, cl_Rack.same, ?_⟩
  refine ⟨_, rfl, ?_⟩
  refine ⟨(!decide ((m_Rack_names self1) = (m_Rack_names other2))), fun _ => ?_, ?_⟩
  · skip
    refine ww_or1 ?_
    refine wt_cmp (nomark _) ?_
    refine we_prop cl_Rack.cls p_Rack_names hr ?_
    refine we_var 0 rfl (by walk_at "vis") rfl ?_
    refine ⟨_, rfl, self1, rfl, ?_⟩
    refine we_prop cl_Rack.cls p_Rack_names hr ?_
    refine we_var 1 rfl (by walk_at "vis") rfl ?_
    refine ⟨_, rfl, other2, rfl, ?_⟩
    refine ⟨_, _, .inl rfl, .inl rfl, ?_⟩
    refine opw_neC (eqc_tup eqc_str) (by exact hr.units) (m_Rack_names self1) (m_Rack_names other2) ?_
    refine ⟨_, rfl, ?_⟩
    exact ⟨rfl, rfl, rfl⟩
  refine ⟨fun hc => ?_, fun hc => ?_⟩
  · skip
    have h := (Out.iteb h).1 hc
    -- 68
    refine wb_cons (ws_ret ?_)
    refine we_bl ?_
    refine ⟨_, rfl, ?_⟩
    exact h
  have h := (Out.iteb h).2 hc
  refine wb_nil ?_
  -- 69
  refine wb_cons (ws_ret ?_)
  refine we_cmp (nomark _) ?_
  refine we_lcQ [("name", 2)] rfl nd (blkOk_by (by rfl)) (lcS_preP (γ := Bool) [("name", 2)] [.sh ((eRak C_Rack C_Ruler) self1), .sh ((eRak C_Rack C_Ruler) other2), .no] (fun _ : Unit => G) (en := eZ) eZ ?_)
  refine ti_keys (k := kZ) (f := (eRul C_Ruler)) ?_
  refine we_fld 0 cl_Rack.cls sl_Rack_0 ?_
  refine we_var 0 rfl (by walk_at "vis") rfl ?_
  refine ⟨_, _, rfl, rfl, ?_⟩
  refine ⟨self1.held, _, rfl, fun hl6 => ?_⟩
  refine ⟨(self1.held.map (·.1)), (), _, _, _, _, rfl, hl6, Wk.refl _, rfl, h, fun s7 x5 Q' h => ?_, fun l8 h => ?_⟩
  · skip
    rintro Y ⟨s1, H1, C1, cl, fp, rfl⟩
    refine wg_name 2 nd rfl (by walk_at "vis") (by decide) (lt_ rfl) ?_
    rintro Y ⟨s1, H1, C1, cl, fp, rfl⟩
    refine wt_cmp (nomark _) ?_
    refine we_dget (k := kZ) (f := (eRul C_Ruler)) kZ_inj (by exact hr.units) (fun _ _ => rfl) ?_
    refine we_fld 0 cl_Rack.cls sl_Rack_0 ?_
    refine we_var 0 rfl (by walk_at "vis") rfl ?_
    refine ⟨_, _, rfl, rfl, ?_⟩
    refine we_var 2 rfl (by walk_at "vis") rfl ?_
    obtain ⟨x9, hx9, h⟩ := Out.gt h
    refine ⟨self1.held, x5, _, .inl rfl, rfl, hx9, ?_⟩
    refine we_item x_Rack_getitem hr ?_
    refine we_var 1 rfl (by walk_at "vis") rfl ?_
    refine we_var 2 rfl (by walk_at "vis") rfl ?_
    refine ⟨_, _, _, rfl, rfl, ⟨(other2, x5), rfl, (Out.nx (Out.sb h)).imp (fun r10 h => ?_) (fun _ he => he)⟩⟩
    refine ⟨_, _, .inl rfl, .inl rfl, ?_⟩
    refine opw_ownNe x_Ruler_eq ne_Ruler hr (fun G_ => ⟨(x9, r10), rfl, rfl, _, rfl, ?_⟩)
    refine ⟨_, rfl, ?_⟩
    refine ⟨fun hc => ?_, fun hc => ?_⟩
    · skip
      have h := (Out.iteb h).1 hc
      rintro Y ⟨s1, H1, C1, cl, fp, rfl⟩
      refine we_var 2 rfl (by walk_at "vis") rfl ?_
      exact ⟨x5, (), _, rfl, Wk.refl _, rfl, h⟩
    have h := (Out.iteb h).2 hc
    exact ⟨(), Wk.refl _, rfl, h⟩
  refine we_lst ?_
  refine wa_nil ?_
  refine ⟨by decide, ?_⟩
  refine ⟨_, _, .inl rfl, .inl rfl, ?_⟩
  refine opw_eqC (eqc_lst eqc_str) (by exact hr.units) l8.1 ([] : List S) ?_
  refine ⟨_, rfl, ?_⟩
  exact h
theorem ok_checksum {f : Addr} {fd : FuncData} (F : Fun K "checksum" "checksum" s_checksum f fd) (B : Bn mg) {t_CHECK : Tok} (m_CHECK : mg "CHECK" = some (.int 233 t_CHECK)) : FnOk P w K mg base (L2.CX P w) 3 f fd ["values"] (spD K (FM cx (A := List Int) (R := Int) (fun a => [(eL eI) a]) (fun v => .sh (eI v)) (fun a => m_checksum a))) := by
  refine def_ok F sc_checksum (fun ds G post px h => ?_) (fun cdv A outer s H E F0 T hr ds G post px h tk hp => ?_)
  · obtain ⟨_, rfl, _⟩ := h; rfl
  obtain ⟨values1, rfl, h⟩ := h
  unfold m_checksum at h
  try dsimp only at h
  have nd := sc_checksum.nd
  refine wb_env [.sh ((eL eI) values1), .no, .no] rfl ?_
  -- 139
  refine wb_cons (ws_set 1 nd rfl (by walk_at "vis") ?_)
  refine we_int ?_
  refine ⟨lt_ rfl, _, rfl, ?_⟩
  refine wb_let h (fun found2 => [.sh ((eL eI) values1), .sh (eI found2), .no]) rfl fun found2 h => ?_
  -- 140
  refine wb_forO (β := Int) [2] (σT := Int) (fun s3 => [.sh ((eL eI) values1), .sh (eI s3), .no]) (fun s3 => G) eI hp rfl ?_
  refine ti_lst (f := eI) ?_
  refine we_var 0 rfl (by walk_at "vis") rfl ?_
  refine ⟨values1, _, rfl, fun hl6 => ?_⟩
  refine ⟨values1, found2, _, _, _, _, rfl, (.eq (.eq (.no .nil))), rfl, h, fun s3 x5 Q' h => ?_, fun s4 h => ?_⟩
  · skip
    refine wg_name 2 nd rfl (by walk_at "vis") (by decide) (lt_ rfl) ?_
    refine wb_env [.sh ((eL eI) values1), .sh (eI s3), .sh (eI x5)] rfl ?_
    -- 141
    refine wb_cons (ws_set 1 nd rfl (by walk_at "vis") ?_)
    refine we_bin ?_
    refine we_t1 (x := "int") (id := "int") rfl B.int bt_int ?_
    refine we_bin ?_
    refine we_bin ?_
    refine we_var 1 rfl (by walk_at "vis") rfl ?_
    refine we_int ?_
    refine ⟨_, _, .inl rfl, .inl rfl, ?_⟩
    refine opw_mul (.inr ⟨by decide, by decide⟩) ?_
    refine we_var 2 rfl (by walk_at "vis") rfl ?_
    refine ⟨_, _, .inl rfl, .inl rfl, ?_⟩
    refine opw_add ?_
    refine ⟨_, .inl rfl, ?_⟩
    refine c_int ?_
    refine we_globI rfl m_CHECK ?_
    refine ⟨_, _, .inl rfl, .inl rfl, ?_⟩
    refine opw_mod (by decide) ?_
    refine ⟨lt_ rfl, _, rfl, ?_⟩
    refine wb_let h (fun found7 => [.sh ((eL eI) values1), .sh (eI found7), .sh (eI x5)]) rfl fun found7 h => ?_
    exact wb_nil ⟨found7, (.eq (.eq (.no .nil))), rfl, h⟩
  -- 142
  refine wb_cons (ws_ret ?_)
  refine we_var 1 rfl (by walk_at "vis") rfl ?_
  refine ⟨_, rfl, ?_⟩
  exact h
theorem ok_Reader_init {f : Addr} {fd : FuncData} (F : Fun K "__init__" "Reader.__init__" s_Reader_init f fd) (B : Bn mg) (cl_Reader : Clo_Reader K C_Reader) : FnOk P w K mg base (L2.CX P w) 3 f fd ["self", "values"] (spS K C_Reader is_Reader (FIS (A := List Int) (fun a => [(eL eI) a]) (fun a => [(eL eI) a, .int 0]))) := by
  exact init2s_ok (v := fun a => (eL eI) a) (n := 0) F sc_Reader_init cl_Reader.cls (Classical.choose_spec cl_Reader.s_codes) (Classical.choose_spec cl_Reader.s_offset) (fun _ => rfl) ((defBody s_Reader_init).getD 0 (.Pass ⟨0, 0, 0, 0⟩)) ((defBody s_Reader_init).getD 1 (.Pass ⟨0, 0, 0, 0⟩)) 1 rfl (fun _ _ => ⟨rfl, rfl⟩) (fun cdv A outer s H E F T px => ⟨SlX.ps_sl (pe_var rfl (by walk_at "vis")) (pe_var rfl (by walk_at "vis")), SlX.ps_sl (pe_var rfl (by walk_at "vis")) pe_int⟩)
theorem ok_Reader_take {f : Addr} {fd : FuncData} (F : Fun K "take" "Reader.take" s_Reader_take f fd) (B : Bn mg) (c_is_number : Cal P w K mg base "is_number" 3 ["value", "lowest", "highest"] (FM cx (A := Int × Int × Int) (R := Bool) (fun a => [eI a.1, eI a.2.1, eI a.2.2]) (fun v => .sh (eB v)) (fun a => .ok (m_is_number a.1 a.2.1 a.2.2)))) (cl_Reader : Clo_Reader K C_Reader) (xw_DecodeError : XK1 P K mg "DecodeError" "offset" (cx 21)) : FnOk P w K mg base (L2.CX P w) 5 f fd ["self", "smallest", "largest"] (spD K (FMS cx C_Reader is_Reader (σT := S_Reader) (A := Int × Int) (R := Int) (sl_Reader) (fun a => [eI a.1, eI a.2]) (fun v => .sh (eI v)) (fun s a => m_Reader_take s a.1 a.2))) := by
  refine def_ok F sc_Reader_take (fun ds G post px h => ?_) (fun cdv A outer s H E F0 T hr ds GI post px h tk hp => ?_)
  · obtain ⟨_, _, _, _, rfl, _⟩ := h; rfl
  obtain ⟨self1, ⟨smallest2, largest3⟩, o, fpI, rfl, hP, h⟩ := h
  have hF := Frm.refl fpI GI
  unfold m_Reader_take at h
  try dsimp only at h
  have nd := sc_Reader_take.nd
  refine wb_env [.sh (.adr o), .sh (eI smallest2), .sh (eI largest3)] rfl ?_
  -- 162
  refine wb_cons (ws_if ?_)
  refine wt_w ?_
  refine ww_orN ?_
  refine wt_cmp (nomark _) ?_
  refine we_slA (is := is_Reader) (ds := (sl_Reader self1)) cl_Reader.cls (Classical.choose_spec cl_Reader.s_offset) rfl ?_
  refine we_var 0 rfl (by walk_at "vis") rfl ?_
  refine ⟨_, _, rfl, hP, ?_⟩
  refine we_b1 (x := "len") (id := "len") rfl B.len bt_len ?_
  refine we_slA (is := is_Reader) (ds := (sl_Reader self1)) cl_Reader.cls (Classical.choose_spec cl_Reader.s_codes) rfl ?_
  refine we_var 0 rfl (by walk_at "vis") rfl ?_
  refine ⟨_, _, rfl, hP, ?_⟩
  refine ⟨_, .inl rfl, ?_⟩
  refine t_len (f := eI) self1.codes ?_
  refine ⟨_, _, .inl rfl, .inl rfl, ?_⟩
  refine opw_ge ?_
  refine ⟨_, rfl, ?_⟩
  refine ⟨_, _, _, _, _, h, fun _ Q' h => ?_, fun c4 h => ?_⟩
  · skip
    refine ww_or1 ?_
    refine wt_not ?_
    refine wt_val (fun _ => rfl) ?_
    refine we_cal tk c_is_number hr rfl ?_
    refine wa_cons ?_
    refine we_ix (fun _ _ => rfl) ?_
    refine we_slA (is := is_Reader) (ds := (sl_Reader self1)) cl_Reader.cls (Classical.choose_spec cl_Reader.s_codes) rfl ?_
    refine we_var 0 rfl (by walk_at "vis") rfl ?_
    refine ⟨_, _, rfl, hP, ?_⟩
    refine we_slA (is := is_Reader) (ds := (sl_Reader self1)) cl_Reader.cls (Classical.choose_spec cl_Reader.s_offset) rfl ?_
    refine we_var 0 rfl (by walk_at "vis") rfl ?_
    refine ⟨_, _, rfl, hP, ?_⟩
    obtain ⟨x5, hx5, h⟩ := Out.gt h
    refine ⟨_, _, .inl rfl, .inl rfl, ?_⟩
    refine t_ix (f := eI) hx5 ?_
    refine ⟨_, _, rfl, ?_⟩
    refine wa_cons ?_
    refine we_var 1 rfl (by walk_at "vis") rfl ?_
    refine ⟨_, _, rfl, ?_⟩
    refine wa_cons ?_
    refine we_var 2 rfl (by walk_at "vis") rfl ?_
    refine ⟨_, _, rfl, ?_⟩
    refine wa_nil ?_
    refine ⟨(x5, smallest2, largest3), rfl, ?_⟩
    refine ⟨_, rfl, ?_⟩
    exact ⟨rfl, rfl, h⟩
  refine ⟨fun hc => ?_, fun hc => ?_⟩
  · skip
    have h := (Out.iteb h).1 hc
    -- 163
    refine wb_cons (ws_raiseK1 (k := 0) xw_DecodeError (hr.mono (by omega)) rfl tk rfl ?_)
    refine we_slA (is := is_Reader) (ds := (sl_Reader self1)) cl_Reader.cls (Classical.choose_spec cl_Reader.s_offset) rfl ?_
    refine we_var 0 rfl (by walk_at "vis") rfl ?_
    refine ⟨_, _, rfl, hP, ?_⟩
    refine ⟨_, rfl, ?_⟩
    exact (h self1 _ _ hP hF)
  have h := (Out.iteb h).2 hc
  refine wb_nil ?_
  -- 164
  refine wb_cons (ws_slAdd (is := is_Reader) (ds := (sl_Reader self1)) (n := self1.offset) cl_Reader.cls (Classical.choose_spec cl_Reader.s_offset) (by decide) rfl ?_)
  refine we_var 0 rfl (by walk_at "vis") rfl ?_
  refine ⟨_, _, rfl, hP, ?_⟩
  refine we_int ?_
  refine ⟨(1 : Int), rfl, rfl, fun G7 hP1 hF1 => ?_⟩
  have hP : slA C_Reader o is_Reader [(eL eI) self1.codes, eI (self1.offset + (1 : Int))] _ G7 := hP1
  have hF := hF.trans hF1
  refine wb_env [.sh (.adr o), .sh (eI smallest2), .sh (eI largest3)] rfl ?_
  -- 165
  refine wb_cons (ws_ret ?_)
  refine we_ix (fun _ _ => rfl) ?_
  refine we_slA (is := is_Reader) (ds := [(eL eI) self1.codes, eI (self1.offset + (1 : Int))]) cl_Reader.cls (Classical.choose_spec cl_Reader.s_codes) rfl ?_
  refine we_var 0 rfl (by walk_at "vis") rfl ?_
  refine ⟨_, _, rfl, hP, ?_⟩
  refine we_bin ?_
  refine we_slA (is := is_Reader) (ds := [(eL eI) self1.codes, eI (self1.offset + (1 : Int))]) cl_Reader.cls (Classical.choose_spec cl_Reader.s_offset) rfl ?_
  refine we_var 0 rfl (by walk_at "vis") rfl ?_
  refine ⟨_, _, rfl, hP, ?_⟩
  refine we_int ?_
  refine ⟨_, _, .inl rfl, .inl rfl, ?_⟩
  refine opw_sub ?_
  obtain ⟨x8, hx8, h⟩ := Out.gt h
  refine ⟨_, _, .inl rfl, .inl rfl, ?_⟩
  refine t_ix (f := eI) hx8 ?_
  refine ⟨_, rfl, ?_⟩
  exact h _ _ hP hF
theorem ok_Reader_take_marks {f : Addr} {fd : FuncData} (F : Fun K "take_marks" "Reader.take_marks" s_Reader_take_marks f fd) (B : Bn mg) {t_BASE : Tok} (m_BASE : mg "BASE" = some (.int 256 t_BASE)) {t_MAX_MARKS : Tok} (m_MAX_MARKS : mg "MAX_MARKS" = some (.int 12 t_MAX_MARKS)) {t_MIN_MARKS : Tok} (m_MIN_MARKS : mg "MIN_MARKS" = some (.int 2 t_MIN_MARKS)) (cl_Reader : Clo_Reader K C_Reader) (d_Reader_take : MethD P w K mg base C_Reader "take" 5 ["self", "smallest", "largest"] (FMS cx C_Reader is_Reader (σT := S_Reader) (A := Int × Int) (R := Int) (sl_Reader) (fun a => [eI a.1, eI a.2]) (fun v => .sh (eI v)) (fun s a => m_Reader_take s a.1 a.2))) : FnOk P w K mg base (L2.CX P w) 7 f fd ["self"] (spD K (FMS cx C_Reader is_Reader (σT := S_Reader) (A := Unit) (R := List Int) (sl_Reader) (fun _ => []) (fun v => .sh ((eT eI) v)) (fun s _ => m_Reader_take_marks s))) := by
  refine def_ok F sc_Reader_take_marks (fun ds G post px h => ?_) (fun cdv A outer s H E F0 T hr ds GI post px h tk hp => ?_)
  · obtain ⟨_, _, _, _, rfl, _⟩ := h; rfl
  obtain ⟨self1, _, o, fpI, rfl, hP, h⟩ := h
  have hF := Frm.refl fpI GI
  unfold m_Reader_take_marks at h
  try dsimp only at h
  have nd := sc_Reader_take_marks.nd
  refine wb_env [.sh (.adr o), .no, .no, .no] rfl ?_
  -- 177
  refine wb_cons (ws_set 1 nd rfl (by walk_at "vis") ?_)
  refine we_lst ?_
  refine wa_cons ?_
  refine we_int ?_
  refine ⟨_, _, rfl, ?_⟩
  refine wa_nil ?_
  refine ⟨lt_ rfl, ?_⟩
  refine ⟨lt_ rfl, _, rfl, ?_⟩
  refine wb_let h (fun marks2 => [.sh (.adr o), .own ((eL eI) marks2), .no, .no]) rfl fun marks2 h => ?_
  -- 178
  refine wb_forOG (β := (List Int × S_Reader)) [2] (σT := (List Int) × (List Int) × Int) (fun s3 => [.sh (.adr o), .own ((eL eI) s3.1), .no, .no]) (fun s3 G' => ∃ fp', slA C_Reader o is_Reader [(eL eI) s3.2.1, eI s3.2.2] fp' G' ∧ Frm fpI GI fp' G') eI hp rfl ?_
  refine wi_rng1 rfl B.range ?_
  refine we_bin ?_
  refine we_methMS tk cl_Reader.cls d_Reader_take hr ?_
  refine we_var 0 rfl (by walk_at "vis") rfl ?_
  refine ⟨self1, _, _, rfl, hP, ?_⟩
  refine wa_cons ?_
  refine we_int ?_
  refine ⟨_, _, rfl, ?_⟩
  refine wa_cons ?_
  refine we_bin ?_
  refine we_globI rfl m_MAX_MARKS ?_
  refine we_globI rfl m_MIN_MARKS ?_
  refine ⟨_, _, .inl rfl, .inl rfl, ?_⟩
  refine opw_sub ?_
  refine ⟨_, _, rfl, ?_⟩
  refine wa_nil ?_
  refine ⟨((0 : Int), (12 : Int) - (2 : Int)), _, rfl, hP, (Out.sb h).imp (fun r6 h fp1 G7 hP1 hF1 => ?_) (fun _ he s' fp' G' hP2 hF2 => he s' _ _ hP2 (hF.trans hF2))⟩
  have hP : slA C_Reader o is_Reader (sl_Reader r6.2) _ G7 := hP1
  have hF := hF.trans hF1
  refine we_int ?_
  refine ⟨_, _, .inl rfl, .inl rfl, ?_⟩
  refine opw_add ?_
  obtain ⟨g8, h⟩ := Out.gd h
  refine ⟨(r6.1 + (1 : Int)), rfl, g8, ?_⟩
  refine ⟨(rgI 0 (r6.1 + (1 : Int))), (marks2, r6.2.codes, r6.2.offset), _, _, _, _, rfl, (.eq (.eq (.no (.no .nil)))), ⟨_, hP, hF⟩, h, fun s3 G9 x5 Q' hg h => ?_, fun s4 G10 hg h => ?_⟩
  · skip
    obtain ⟨fp, hP, hF⟩ := hg
    refine wg_name 2 nd rfl (by walk_at "vis") (by decide) (lt_ rfl) ?_
    refine wb_env [.sh (.adr o), .own ((eL eI) s3.1), .sh (eI x5), .no] rfl ?_
    -- 179
    refine wb_cons (ws_set 3 nd rfl (by walk_at "vis") ?_)
    refine we_methMS tk cl_Reader.cls d_Reader_take hr ?_
    refine we_var 0 rfl (by walk_at "vis") rfl ?_
    refine ⟨(⟨s3.2.1, s3.2.2⟩ : S_Reader), _, _, rfl, hP, ?_⟩
    refine wa_cons ?_
    refine we_int ?_
    refine ⟨_, _, rfl, ?_⟩
    refine wa_cons ?_
    refine we_int ?_
    refine ⟨_, _, rfl, ?_⟩
    refine wa_nil ?_
    refine ⟨((0 : Int), (1 : Int)), _, rfl, hP, (Out.sb h).imp (fun r12 h fp1 G13 hP1 hF1 => ?_) (fun _ he s' fp' G' hP2 hF2 => he s' _ _ hP2 (hF.trans hF2))⟩
    have hP : slA C_Reader o is_Reader (sl_Reader r12.2) _ G13 := hP1
    have hF := hF.trans hF1
    refine ⟨lt_ rfl, _, rfl, ?_⟩
    refine wb_env [.sh (.adr o), .own ((eL eI) s3.1), .sh (eI x5), .sh (eI r12.1)] rfl ?_
    -- 180
    refine wb_cons (ws_expr ?_)
    refine we_appendT (f := eI) ?_
    refine we_var 1 rfl (by walk_at "vis") rfl ?_
    refine ⟨_, s3.1, rfl, rfl, ?_⟩
    refine we_bin ?_
    refine we_bin ?_
    refine we_ix (fun _ _ => rfl) ?_
    refine we_var 1 rfl (by walk_at "vis") rfl ?_
    refine we_un rfl ?_
    refine we_int ?_
    refine ⟨_, rfl, ?_⟩
    obtain ⟨x15, hx15, h⟩ := Out.gt h
    refine ⟨_, _, .inl rfl, .inl rfl, ?_⟩
    refine t_ix (f := eI) hx15 ?_
    refine we_bin ?_
    refine we_var 3 rfl (by walk_at "vis") rfl ?_
    refine we_globI rfl m_BASE ?_
    refine ⟨_, _, .inl rfl, .inl rfl, ?_⟩
    refine opw_mul (.inr ⟨by decide, by decide⟩) ?_
    refine ⟨_, _, .inl rfl, .inl rfl, ?_⟩
    refine opw_add ?_
    refine we_methMS tk cl_Reader.cls d_Reader_take hr ?_
    refine we_var 0 rfl (by walk_at "vis") rfl ?_
    refine ⟨r12.2, _, _, rfl, hP, ?_⟩
    refine wa_cons ?_
    refine we_int ?_
    refine ⟨_, _, rfl, ?_⟩
    refine wa_cons ?_
    refine we_bin ?_
    refine we_globI rfl m_BASE ?_
    refine we_int ?_
    refine ⟨_, _, .inl rfl, .inl rfl, ?_⟩
    refine opw_sub ?_
    refine ⟨_, _, rfl, ?_⟩
    refine wa_nil ?_
    refine ⟨((0 : Int), (256 : Int) - (1 : Int)), _, rfl, hP, (Out.sb h).imp (fun r16 h fp1 G17 hP1 hF1 => ?_) (fun _ he s' fp' G' hP2 hF2 => he s' _ _ hP2 (hF.trans hF2))⟩
    have hP : slA C_Reader o is_Reader (sl_Reader r16.2) _ G17 := hP1
    have hF := hF.trans hF1
    refine ⟨_, _, .inl rfl, .inl rfl, ?_⟩
    refine opw_add ?_
    obtain ⟨g18, h⟩ := Out.gd h
    refine ⟨((x15 + (r12.1 * (256 : Int))) + r16.1), _, s3.1, rfl, rfl, g18, ?_⟩
    refine wb_let h (fun marks19 => [.sh (.adr o), .own ((eL eI) marks19), .sh (eI x5), .sh (eI r12.1)]) rfl fun marks19 h => ?_
    exact wb_nil ⟨(marks19, r16.2.codes, r16.2.offset), (.eq (.eq (.no (.no .nil)))), ⟨_, hP, hF⟩, h⟩
  obtain ⟨fp, hP, hF⟩ := hg
  -- 181
  refine wb_cons (ws_ret ?_)
  refine we_t1 (x := "tuple") (id := "tuple") rfl B.tuple bt_tuple ?_
  refine we_var 1 rfl (by walk_at "vis") rfl ?_
  refine ⟨_, .inl rfl, ?_⟩
  refine c_tuple ?_
  refine ⟨_, rfl, ?_⟩
  exact h _ _ hP hF
theorem ok_Reader_take_name {f : Addr} {fd : FuncData} (F : Fun K "take_name" "Reader.take_name" s_Reader_take_name f fd) (B : Bn mg) {t_LETTERS : Tok} (m_LETTERS : mg "LETTERS" = some (.str "abcdefghijklmnopqrstuvwxyz" t_LETTERS)) {t_MAX_LETTERS : Tok} (m_MAX_LETTERS : mg "MAX_LETTERS" = some (.int 8 t_MAX_LETTERS)) (cl_Reader : Clo_Reader K C_Reader) (d_Reader_take : MethD P w K mg base C_Reader "take" 5 ["self", "smallest", "largest"] (FMS cx C_Reader is_Reader (σT := S_Reader) (A := Int × Int) (R := Int) (sl_Reader) (fun a => [eI a.1, eI a.2]) (fun v => .sh (eI v)) (fun s a => m_Reader_take s a.1 a.2))) (xw_DecodeError : XK1 P K mg "DecodeError" "offset" (cx 21)) : FnOk P w K mg base (L2.CX P w) 7 f fd ["self", "last"] (spD K (FMS cx C_Reader is_Reader (σT := S_Reader) (A := S) (R := S) (sl_Reader) (fun a => [eZ a]) (fun v => .sh (eZ v)) (fun s a => m_Reader_take_name s a))) := by
  refine def_ok F sc_Reader_take_name (fun ds G post px h => ?_) (fun cdv A outer s H E F0 T hr ds GI post px h tk hp => ?_)
  · obtain ⟨_, _, _, _, rfl, _⟩ := h; rfl
  obtain ⟨self1, last2, o, fpI, rfl, hP, h⟩ := h
  have hF := Frm.refl fpI GI
  unfold m_Reader_take_name at h
  try dsimp only at h
  have nd := sc_Reader_take_name.nd
  refine wb_env [.sh (.adr o), .sh (eZ last2), .no, .no, .no] rfl ?_
  -- 168
  refine wb_cons (ws_set 2 nd rfl (by walk_at "vis") ?_)
  refine we_slA (is := is_Reader) (ds := (sl_Reader self1)) cl_Reader.cls (Classical.choose_spec cl_Reader.s_offset) rfl ?_
  refine we_var 0 rfl (by walk_at "vis") rfl ?_
  refine ⟨_, _, rfl, hP, ?_⟩
  refine ⟨lt_ rfl, _, rfl, ?_⟩
  refine wb_env [.sh (.adr o), .sh (eZ last2), .sh (eI self1.offset), .no, .no] rfl ?_
  -- 169
  refine wb_cons (ws_set 3 nd rfl (by walk_at "vis") ?_)
  refine we_str ?_
  refine ⟨lt_ rfl, _, rfl, ?_⟩
  refine wb_env [.sh (.adr o), .sh (eZ last2), .sh (eI self1.offset), .sh (eZ z_), .no] rfl ?_
  -- 170
  refine wb_forOG (β := (S × S_Reader)) [4] (σT := S × (List Int) × Int) (fun s3 => [.sh (.adr o), .sh (eZ last2), .sh (eI self1.offset), .sh (eZ s3.1), .no]) (fun s3 G' => ∃ fp', slA C_Reader o is_Reader [(eL eI) s3.2.1, eI s3.2.2] fp' G' ∧ Frm fpI GI fp' G') eI hp rfl ?_
  refine wi_rng1 rfl B.range ?_
  refine we_methMS tk cl_Reader.cls d_Reader_take hr ?_
  refine we_var 0 rfl (by walk_at "vis") rfl ?_
  refine ⟨self1, _, _, rfl, hP, ?_⟩
  refine wa_cons ?_
  refine we_int ?_
  refine ⟨_, _, rfl, ?_⟩
  refine wa_cons ?_
  refine we_globI rfl m_MAX_LETTERS ?_
  refine ⟨_, _, rfl, ?_⟩
  refine wa_nil ?_
  refine ⟨((1 : Int), (8 : Int)), _, rfl, hP, (Out.sb h).imp (fun r6 h fp1 G7 hP1 hF1 => ?_) (fun _ he s' fp' G' hP2 hF2 => he s' _ _ hP2 (hF.trans hF2))⟩
  have hP : slA C_Reader o is_Reader (sl_Reader r6.2) _ G7 := hP1
  have hF := hF.trans hF1
  obtain ⟨g8, h⟩ := Out.gd h
  refine ⟨r6.1, rfl, g8, ?_⟩
  refine ⟨(rgI 0 r6.1), (z_, r6.2.codes, r6.2.offset), _, _, _, _, rfl, (.eq (.eq (.eq (.eq (.no .nil))))), ⟨_, hP, hF⟩, h, fun s3 G9 x5 Q' hg h => ?_, fun s4 G10 hg h => ?_⟩
  · skip
    obtain ⟨fp, hP, hF⟩ := hg
    refine wg_name 4 nd rfl (by walk_at "vis") (by decide) (lt_ rfl) ?_
    refine wb_env [.sh (.adr o), .sh (eZ last2), .sh (eI self1.offset), .sh (eZ s3.1), .sh (eI x5)] rfl ?_
    -- 171
    refine wb_cons (ws_augT 3 (n := s3.1) nd rfl (by walk_at "vis") rfl ?_)
    refine we_ix (fun _ _ => rfl) ?_
    refine we_globS rfl m_LETTERS ?_
    refine we_bin ?_
    refine we_methMS tk cl_Reader.cls d_Reader_take hr ?_
    refine we_var 0 rfl (by walk_at "vis") rfl ?_
    refine ⟨(⟨s3.2.1, s3.2.2⟩ : S_Reader), _, _, rfl, hP, ?_⟩
    refine wa_cons ?_
    refine we_int ?_
    refine ⟨_, _, rfl, ?_⟩
    refine wa_cons ?_
    refine we_b1 (x := "len") (id := "len") rfl B.len bt_len ?_
    refine we_globS rfl m_LETTERS ?_
    refine ⟨_, .inl rfl, ?_⟩
    obtain ⟨g12, h⟩ := Out.gd h
    refine t_lenS (x := z_abcdefghijklmnopqrst) g12 ?_
    refine ⟨_, _, rfl, ?_⟩
    refine wa_nil ?_
    refine ⟨((1 : Int), (z_abcdefghijklmnopqrst.1.length : Int)), _, rfl, hP, (Out.sb h).imp (fun r13 h fp1 G14 hP1 hF1 => ?_) (fun _ he s' fp' G' hP2 hF2 => he s' _ _ hP2 (hF.trans hF2))⟩
    have hP : slA C_Reader o is_Reader (sl_Reader r13.2) _ G14 := hP1
    have hF := hF.trans hF1
    refine we_int ?_
    refine ⟨_, _, .inl rfl, .inl rfl, ?_⟩
    refine opw_sub ?_
    obtain ⟨g15, h⟩ := Out.gd h
    obtain ⟨x16, hx16, h⟩ := Out.gt h
    refine ⟨_, _, .inl rfl, .inl rfl, ?_⟩
    refine ixw_str (x := z_abcdefghijklmnopqrst) g15 hx16 ?_
    obtain ⟨g17, h⟩ := Out.gd h
    refine ⟨lt_ rfl, (oneS x16), rfl, g17, ?_⟩
    refine wb_let h (fun name18 => [.sh (.adr o), .sh (eZ last2), .sh (eI self1.offset), .sh (eZ name18), .sh (eI x5)]) rfl fun name18 h => ?_
    exact wb_nil ⟨(name18, r13.2.codes, r13.2.offset), (.eq (.eq (.eq (.eq (.no .nil))))), ⟨_, hP, hF⟩, h⟩
  obtain ⟨fp, hP, hF⟩ := hg
  -- 172
  refine wb_cons (ws_if ?_)
  refine wt_cmp (nomark _) ?_
  refine we_var 3 rfl (by walk_at "vis") rfl ?_
  refine we_var 1 rfl (by walk_at "vis") rfl ?_
  refine ⟨_, _, .inl rfl, .inl rfl, ?_⟩
  refine opw_leC orc_str (by exact hr.units) s4.1 last2 ?_
  refine ⟨_, rfl, ?_⟩
  refine ⟨fun hc => ?_, fun hc => ?_⟩
  · skip
    have h := (Out.iteb h).1 hc
    -- 173
    refine wb_cons (ws_raiseK1 (k := 0) xw_DecodeError (hr.mono (by omega)) rfl tk rfl ?_)
    refine we_var 2 rfl (by walk_at "vis") rfl ?_
    refine ⟨_, rfl, ?_⟩
    exact (h (⟨s4.2.1, s4.2.2⟩ : S_Reader) _ _ hP hF)
  have h := (Out.iteb h).2 hc
  refine wb_nil ?_
  -- 174
  refine wb_cons (ws_ret ?_)
  refine we_var 3 rfl (by walk_at "vis") rfl ?_
  refine ⟨_, rfl, ?_⟩
  exact h _ _ hP hF
theorem ok_rack_of {f : Addr} {fd : FuncData} (F : Fun K "rack_of" "rack_of" s_rack_of f fd) (B : Bn mg) (k_Rack : MakeD P w K mg base "Rack" C_Rack 5 ["self", "rulers"] (FMI cx (A := List (S × Rul)) (R := Rak) (fun a => [(eD kZ (eRul C_Ruler)) a]) (fun r => [eD kZ (eRul C_Ruler) r.held]) (fun a => mk_Rack a))) (k_Ruler : MakeD P w K mg base "Ruler" C_Ruler 5 ["self", "marks", "error"] (FMI cx (A := (List Int) × Int) (R := Rul) (fun a => [(eT eI) a.1, eI a.2]) (fun r => [.int r.error, .tup (r.marks.map D.int)]) (fun a => mk_Ruler a.1 a.2))) : FnOk P w K mg base (L2.CX P w) 8 f fd ["rows"] (spD K (FM cx (A := List ((S × Int × List Int))) (R := Rak) (fun a => [(eL (eP3 eZ eI (eT eI))) a]) (fun v => .sh ((eRak C_Rack C_Ruler) v)) (fun a => m_rack_of a))) := by
  refine def_ok F sc_rack_of (fun ds G post px h => ?_) (fun cdv A outer s H E F0 T hr ds G post px h tk hp => ?_)
  · obtain ⟨_, rfl, _⟩ := h; rfl
  obtain ⟨rows1, rfl, h⟩ := h
  unfold m_rack_of at h
  try dsimp only at h
  have nd := sc_rack_of.nd
  refine wb_env [.sh ((eL (eP3 eZ eI (eT eI))) rows1), .no, .no, .no] rfl ?_
  -- 133
  refine wb_cons (ws_ret ?_)
  refine we_make tk k_Rack hr rfl ?_
  refine wa_cons ?_
  refine we_lock ?_
  refine we_dcS [("name", 1), ("error", 2), ("marks", 3)] [.sh ((eL (eP3 eZ eI (eT eI))) rows1), .no, .no, .no] (fun _ : Unit => G) (en := (eP3 eZ eI (eT eI))) kZ (eRul C_Ruler) kZ_inj rfl nd (blkOk_by (by rfl)) ?_
  refine ti_lst (f := (eP3 eZ eI (eT eI))) ?_
  refine we_var 0 rfl (by walk_at "vis") rfl ?_
  refine ⟨rows1, _, rfl, fun hl3 => ?_⟩
  refine ⟨_, rows1, (), _, _, _, _, rfl, hl3, Wk.refl _, rfl, h, fun s4 x2 Q' h => ?_, fun l5 h => ?_⟩
  · skip
    rintro Y ⟨s1, H1, C1, cl, fp, rfl⟩
    refine wg_trip 1 2 3 rfl nd rfl rfl rfl (by walk_at "vis") (by walk_at "vis") (by walk_at "vis") (by decide) (by decide) (by decide) (lt_ rfl) (lt_ rfl) (lt_ rfl) ?_
    rintro Y ⟨s1, H1, C1, cl, fp, rfl⟩
    refine we_var 1 rfl (by walk_at "vis") rfl ?_
    refine ⟨x2.1, rfl, ?_⟩
    rintro Y ⟨s1, H1, C1, cl, fp, rfl⟩
    refine we_make (BlkX.tk ⟨_, _, _, _, _, rfl⟩) k_Ruler hr rfl ?_
    refine wa_cons ?_
    refine we_var 3 rfl (by walk_at "vis") rfl ?_
    refine ⟨_, _, rfl, ?_⟩
    refine wa_cons ?_
    refine we_var 2 rfl (by walk_at "vis") rfl ?_
    refine ⟨_, _, rfl, ?_⟩
    refine wa_nil ?_
    refine ⟨(x2.2.2, x2.2.1), rfl, (Out.nx (Out.sb h)).imp (fun r6 h => ?_) (fun _ he => he)⟩
    exact ⟨r6, (), _, rfl, Wk.refl _, rfl, h⟩
  refine ⟨_, _, rfl, ?_⟩
  refine ⟨_, _, rfl, ?_⟩
  refine wa_nil ?_
  refine ⟨dmk l5.1, rfl, (Out.sb h).imp (fun r7 h => ?_) (fun _ he => he)⟩
  refine ⟨_, rfl, ?_⟩
  exact h
theorem ok_decode_rack {f : Addr} {fd : FuncData} (F : Fun K "decode_rack" "decode_rack" s_decode_rack f fd) (B : Bn mg) (c_checksum : Cal P w K mg base "checksum" 3 ["values"] (FM cx (A := List Int) (R := Int) (fun a => [(eL eI) a]) (fun v => .sh (eI v)) (fun a => m_checksum a))) (c_rack_of : Cal P w K mg base "rack_of" 8 ["rows"] (FM cx (A := List ((S × Int × List Int))) (R := Rak) (fun a => [(eL (eP3 eZ eI (eT eI))) a]) (fun v => .sh ((eRak C_Rack C_Ruler) v)) (fun a => m_rack_of a))) {t_FIRST : Tok} (m_FIRST : mg "FIRST" = some (.int 82 t_FIRST)) {t_MAX_ERROR : Tok} (m_MAX_ERROR : mg "MAX_ERROR" = some (.int 9 t_MAX_ERROR)) {t_MAX_RULERS : Tok} (m_MAX_RULERS : mg "MAX_RULERS" = some (.int 6 t_MAX_RULERS)) (cl_Reader : Clo_Reader K C_Reader) (d_Reader_take : MethD P w K mg base C_Reader "take" 5 ["self", "smallest", "largest"] (FMS cx C_Reader is_Reader (σT := S_Reader) (A := Int × Int) (R := Int) (sl_Reader) (fun a => [eI a.1, eI a.2]) (fun v => .sh (eI v)) (fun s a => m_Reader_take s a.1 a.2))) (d_Reader_take_marks : MethD P w K mg base C_Reader "take_marks" 7 ["self"] (FMS cx C_Reader is_Reader (σT := S_Reader) (A := Unit) (R := List Int) (sl_Reader) (fun _ => []) (fun v => .sh ((eT eI) v)) (fun s _ => m_Reader_take_marks s))) (d_Reader_take_name : MethD P w K mg base C_Reader "take_name" 7 ["self", "last"] (FMS cx C_Reader is_Reader (σT := S_Reader) (A := S) (R := S) (sl_Reader) (fun a => [eZ a]) (fun v => .sh (eZ v)) (fun s a => m_Reader_take_name s a))) (k_Reader : MakeS P w K mg base "Reader" C_Reader 3 ["self", "values"] is_Reader (FIS (A := List Int) (fun a => [(eL eI) a]) (fun a => [(eL eI) a, .int 0]))) (xw_DecodeError : XK1 P K mg "DecodeError" "offset" (cx 21)) : FnOk P w K mg base (L2.CX P w) 10 f fd ["values"] (spD K (FM cx (A := List Int) (R := Rak) (fun a => [(eL eI) a]) (fun v => .sh ((eRak C_Rack C_Ruler) v)) (fun a => m_decode_rack a))) := by
  refine def_ok F sc_decode_rack (fun ds G post px h => ?_) (fun cdv A outer s H E F0 T hr ds G post px h tk hp => ?_)
  · obtain ⟨_, rfl, _⟩ := h; rfl
  obtain ⟨values1, rfl, h⟩ := h
  unfold m_decode_rack at h
  try dsimp only at h
  have nd := sc_decode_rack.nd
  refine wb_env [.sh ((eL eI) values1), .no, .no, .no, .no, .no, .no] rfl ?_
  -- 183
  refine wb_cons (ws_set 1 nd rfl (by walk_at "vis") ?_)
  refine we_makeSA tk k_Reader hr rfl (by decide) ?_
  refine wa_cons ?_
  refine we_var 0 rfl (by walk_at "vis") rfl ?_
  refine ⟨_, _, rfl, ?_⟩
  refine wa_nil ?_
  refine ⟨values1, rfl, fun o2 fp1 G3 hP hF => ?_⟩
  refine ⟨lt_ rfl, _, rfl, ?_⟩
  refine wb_env [.sh ((eL eI) values1), .sh (.adr o2), .no, .no, .no, .no, .no] rfl ?_
  -- 184
  refine wb_dropR G ?_
  refine wb_dropX G tk (fun tk => ?_)
  refine wb_cons (ws_expr ?_)
  refine we_methMS tk cl_Reader.cls d_Reader_take hr ?_
  refine we_var 1 rfl (by walk_at "vis") rfl ?_
  refine ⟨(⟨values1, (0 : Int)⟩ : S_Reader), _, _, rfl, hP, ?_⟩
  refine wa_cons ?_
  refine we_globI rfl m_FIRST ?_
  refine ⟨_, _, rfl, ?_⟩
  refine wa_cons ?_
  refine we_globI rfl m_FIRST ?_
  refine ⟨_, _, rfl, ?_⟩
  refine wa_nil ?_
  refine ⟨((82 : Int), (82 : Int)), _, rfl, hP, (Out.sb h).imp (fun r4 h fp1 G5 hP1 hF1 => ?_) (fun _ he s' fp' G' hP2 hF2 => ⟨(hF.trans hF2).sub, he⟩)⟩
  have hP : slA C_Reader o2 is_Reader (sl_Reader r4.2) _ G5 := hP1
  have hF := hF.trans hF1
  -- 185
  refine wb_cons (ws_par 2 3 rfl nd rfl rfl (by decide) rfl rfl (by rfl) ?_)
  refine we_lst ?_
  refine wa_nil ?_
  refine ⟨by decide, ?_⟩
  refine ⟨_, _, rfl, ?_⟩
  refine we_str ?_
  refine ⟨_, _, rfl, lt_ rfl, lt_ rfl, ?_⟩
  refine wb_let h (fun rows6 => [.sh ((eL eI) values1), .sh (.adr o2), .own ((eL (eP3 eZ eI (eT eI))) rows6), .sh (eZ z_), .no, .no, .no]) rfl fun rows6 h => ?_
  refine wb_let h (fun last7 => [.sh ((eL eI) values1), .sh (.adr o2), .own ((eL (eP3 eZ eI (eT eI))) rows6), .sh (eZ last7), .no, .no, .no]) rfl fun last7 h => ?_
  -- 186
  refine wb_forOG (β := Rak) [4] (σT := S × (List ((S × Int × List Int))) × S_Reader) (fun s8 => [.sh ((eL eI) values1), .sh (.adr o2), .own ((eL (eP3 eZ eI (eT eI))) s8.2.1), .sh (eZ s8.1), .no, .no, .no]) (fun s8 G' => ∃ fp', slA C_Reader o2 is_Reader (sl_Reader s8.2.2) fp' G' ∧ Frm [] G fp' G') eI hp rfl ?_
  refine wi_rng1 rfl B.range ?_
  refine we_methMS tk cl_Reader.cls d_Reader_take hr ?_
  refine we_var 1 rfl (by walk_at "vis") rfl ?_
  refine ⟨r4.2, _, _, rfl, hP, ?_⟩
  refine wa_cons ?_
  refine we_int ?_
  refine ⟨_, _, rfl, ?_⟩
  refine wa_cons ?_
  refine we_globI rfl m_MAX_RULERS ?_
  refine ⟨_, _, rfl, ?_⟩
  refine wa_nil ?_
  refine ⟨((1 : Int), (6 : Int)), _, rfl, hP, (Out.sb h).imp (fun r11 h fp1 G12 hP1 hF1 => ?_) (fun _ he s' fp' G' hP2 hF2 => ⟨(hF.trans hF2).sub, he⟩)⟩
  have hP : slA C_Reader o2 is_Reader (sl_Reader r11.2) _ G12 := hP1
  have hF := hF.trans hF1
  obtain ⟨g13, h⟩ := Out.gd h
  refine ⟨r11.1, rfl, g13, ?_⟩
  refine ⟨(rgI 0 r11.1), (last7, rows6, r11.2), _, _, _, _, rfl, (.eq (.eq (.eq (.eq (.no (.no (.no .nil))))))), ⟨_, hP, hF⟩, h, fun s8 G14 x10 Q' hg h => ?_, fun s9 G15 hg h => ?_⟩
  · skip
    obtain ⟨fp, hP, hF⟩ := hg
    refine wg_name 4 nd rfl (by walk_at "vis") (by decide) (lt_ rfl) ?_
    refine wb_env [.sh ((eL eI) values1), .sh (.adr o2), .own ((eL (eP3 eZ eI (eT eI))) s8.2.1), .sh (eZ s8.1), .sh (eI x10), .no, .no] rfl ?_
    -- 187
    refine wb_cons (ws_set 3 nd rfl (by walk_at "vis") ?_)
    refine we_methMS tk cl_Reader.cls d_Reader_take_name hr ?_
    refine we_var 1 rfl (by walk_at "vis") rfl ?_
    refine ⟨s8.2.2, _, _, rfl, hP, ?_⟩
    refine wa_cons ?_
    refine we_var 3 rfl (by walk_at "vis") rfl ?_
    refine ⟨_, _, rfl, ?_⟩
    refine wa_nil ?_
    refine ⟨s8.1, _, rfl, hP, (Out.sb h).imp (fun r17 h fp1 G18 hP1 hF1 => ?_) (fun _ he s' fp' G' hP2 hF2 => ⟨(hF.trans hF2).sub, he⟩)⟩
    have hP : slA C_Reader o2 is_Reader (sl_Reader r17.2) _ G18 := hP1
    have hF := hF.trans hF1
    refine ⟨lt_ rfl, _, rfl, ?_⟩
    refine wb_env [.sh ((eL eI) values1), .sh (.adr o2), .own ((eL (eP3 eZ eI (eT eI))) s8.2.1), .sh (eZ r17.1), .sh (eI x10), .no, .no] rfl ?_
    -- 188
    refine wb_cons (ws_set 5 nd rfl (by walk_at "vis") ?_)
    refine we_methMS tk cl_Reader.cls d_Reader_take hr ?_
    refine we_var 1 rfl (by walk_at "vis") rfl ?_
    refine ⟨r17.2, _, _, rfl, hP, ?_⟩
    refine wa_cons ?_
    refine we_int ?_
    refine ⟨_, _, rfl, ?_⟩
    refine wa_cons ?_
    refine we_globI rfl m_MAX_ERROR ?_
    refine ⟨_, _, rfl, ?_⟩
    refine wa_nil ?_
    refine ⟨((0 : Int), (9 : Int)), _, rfl, hP, (Out.sb h).imp (fun r19 h fp1 G20 hP1 hF1 => ?_) (fun _ he s' fp' G' hP2 hF2 => ⟨(hF.trans hF2).sub, he⟩)⟩
    have hP : slA C_Reader o2 is_Reader (sl_Reader r19.2) _ G20 := hP1
    have hF := hF.trans hF1
    refine ⟨lt_ rfl, _, rfl, ?_⟩
    refine wb_env [.sh ((eL eI) values1), .sh (.adr o2), .own ((eL (eP3 eZ eI (eT eI))) s8.2.1), .sh (eZ r17.1), .sh (eI x10), .sh (eI r19.1), .no] rfl ?_
    -- 189
    refine wb_cons (ws_expr ?_)
    refine we_appendT (f := (eP3 eZ eI (eT eI))) ?_
    refine we_var 2 rfl (by walk_at "vis") rfl ?_
    refine ⟨_, s8.2.1, rfl, rfl, ?_⟩
    refine we_tup ?_
    refine wa_cons ?_
    refine we_var 3 rfl (by walk_at "vis") rfl ?_
    refine ⟨_, _, rfl, ?_⟩
    refine wa_cons ?_
    refine we_var 5 rfl (by walk_at "vis") rfl ?_
    refine ⟨_, _, rfl, ?_⟩
    refine wa_cons ?_
    refine we_methMS0 tk cl_Reader.cls d_Reader_take_marks hr ?_
    refine we_var 1 rfl (by walk_at "vis") rfl ?_
    refine ⟨r19.2, _, _, rfl, hP, (Out.sb h).imp (fun r22 h fp1 G23 hP1 hF1 => ?_) (fun _ he s' fp' G' hP2 hF2 => ⟨(hF.trans hF2).sub, he⟩)⟩
    have hP : slA C_Reader o2 is_Reader (sl_Reader r22.2) _ G23 := hP1
    have hF := hF.trans hF1
    refine ⟨_, _, rfl, ?_⟩
    refine wa_nil ?_
    refine ⟨lt_ rfl, ?_⟩
    obtain ⟨g24, h⟩ := Out.gd h
    refine ⟨(r17.1, r19.1, r22.1), _, s8.2.1, rfl, rfl, g24, ?_⟩
    refine wb_let h (fun rows25 => [.sh ((eL eI) values1), .sh (.adr o2), .own ((eL (eP3 eZ eI (eT eI))) rows25), .sh (eZ r17.1), .sh (eI x10), .sh (eI r19.1), .no]) rfl fun rows25 h => ?_
    exact wb_nil ⟨(r17.1, rows25, r22.2), (.eq (.eq (.eq (.eq (.no (.no (.no .nil))))))), ⟨_, hP, hF⟩, h⟩
  obtain ⟨fp, hP, hF⟩ := hg
  -- 190
  refine wb_cons (ws_set 6 nd rfl (by walk_at "vis") ?_)
  refine we_cal tk c_checksum hr rfl ?_
  refine wa_cons ?_
  refine we_slice ?_
  refine we_var 0 rfl (by walk_at "vis") rfl ?_
  refine wo_none ?_
  refine wo_some ?_
  refine we_slA (is := is_Reader) (ds := (sl_Reader s9.2.2)) cl_Reader.cls (Classical.choose_spec cl_Reader.s_offset) rfl ?_
  refine we_var 1 rfl (by walk_at "vis") rfl ?_
  refine ⟨_, _, rfl, hP, ?_⟩
  refine ⟨_, rfl, ?_⟩
  refine ⟨_, .inl rfl, ?_⟩
  refine t_sl (f := eI) (xs := values1) ?_
  refine ⟨_, _, rfl, ?_⟩
  refine wa_nil ?_
  refine ⟨pcut values1 none (some s9.2.2.offset), rfl, (Out.sb h).imp (fun r26 h => ?_) (fun _ he => ⟨hF.sub, he⟩)⟩
  refine ⟨lt_ rfl, _, rfl, ?_⟩
  refine wb_env [.sh ((eL eI) values1), .sh (.adr o2), .own ((eL (eP3 eZ eI (eT eI))) s9.2.1), .sh (eZ s9.1), .no, .no, .sh (eI r26)] rfl ?_
  -- 191
  refine wb_cons (ws_expr ?_)
  refine we_methMS tk cl_Reader.cls d_Reader_take hr ?_
  refine we_var 1 rfl (by walk_at "vis") rfl ?_
  refine ⟨s9.2.2, _, _, rfl, hP, ?_⟩
  refine wa_cons ?_
  refine we_var 6 rfl (by walk_at "vis") rfl ?_
  refine ⟨_, _, rfl, ?_⟩
  refine wa_cons ?_
  refine we_var 6 rfl (by walk_at "vis") rfl ?_
  refine ⟨_, _, rfl, ?_⟩
  refine wa_nil ?_
  refine ⟨(r26, r26), _, rfl, hP, (Out.sb h).imp (fun r27 h fp1 G28 hP1 hF1 => ?_) (fun _ he s' fp' G' hP2 hF2 => ⟨(hF.trans hF2).sub, he⟩)⟩
  have hP : slA C_Reader o2 is_Reader (sl_Reader r27.2) _ G28 := hP1
  have hF := hF.trans hF1
  -- 192
  refine wb_cons (ws_if ?_)
  refine wt_cmp (nomark _) ?_
  refine we_slA (is := is_Reader) (ds := (sl_Reader r27.2)) cl_Reader.cls (Classical.choose_spec cl_Reader.s_offset) rfl ?_
  refine we_var 1 rfl (by walk_at "vis") rfl ?_
  refine ⟨_, _, rfl, hP, ?_⟩
  refine we_b1 (x := "len") (id := "len") rfl B.len bt_len ?_
  refine we_var 0 rfl (by walk_at "vis") rfl ?_
  refine ⟨_, .inl rfl, ?_⟩
  refine t_len (f := eI) values1 ?_
  refine ⟨_, _, .inl rfl, .inl rfl, ?_⟩
  refine opw_lt ?_
  refine ⟨_, rfl, ?_⟩
  refine ⟨fun hc => ?_, fun hc => ?_⟩
  · skip
    have h := (Out.iteb h).1 hc
    -- 193
    refine wb_cons (ws_raiseK1 (k := 0) xw_DecodeError (hr.mono (by omega)) rfl tk rfl ?_)
    refine we_slA (is := is_Reader) (ds := (sl_Reader r27.2)) cl_Reader.cls (Classical.choose_spec cl_Reader.s_offset) rfl ?_
    refine we_var 1 rfl (by walk_at "vis") rfl ?_
    refine ⟨_, _, rfl, hP, ?_⟩
    refine ⟨_, rfl, ?_⟩
    exact ⟨hF.sub, h⟩
  have h := (Out.iteb h).2 hc
  refine wb_nil ?_
  -- 194
  refine wb_cons (ws_ret ?_)
  refine we_cal tk c_rack_of hr rfl ?_
  refine wa_cons ?_
  refine we_var 2 rfl (by walk_at "vis") rfl ?_
  refine ⟨_, _, rfl, ?_⟩
  refine wa_nil ?_
  refine ⟨s9.2.1, rfl, (Out.sb h).imp (fun r29 h => ?_) (fun _ he => ⟨hF.sub, he⟩)⟩
  refine ⟨_, rfl, ?_⟩
  exact ⟨hF.sub, h⟩
theorem ok_ruler_codes {f : Addr} {fd : FuncData} (F : Fun K "ruler_codes" "ruler_codes" s_ruler_codes f fd) (B : Bn mg) (xg_divmod : mg "divmod" = none) (cl_Ruler : Cl_Ruler K C_Ruler) {t_BASE : Tok} (m_BASE : mg "BASE" = some (.int 256 t_BASE)) {t_LETTERS : Tok} (m_LETTERS : mg "LETTERS" = some (.str "abcdefghijklmnopqrstuvwxyz" t_LETTERS)) {t_MIN_MARKS : Tok} (m_MIN_MARKS : mg "MIN_MARKS" = some (.int 2 t_MIN_MARKS)) (p_Ruler_error : PropD P w K mg base C_Ruler "error" 3 (FM cx (A := Rul) (R := Int) (fun a => [(eRul C_Ruler) a]) (fun v => .sh (eI v)) (fun a => .ok (m_Ruler_error a)))) (p_Ruler_marks : PropD P w K mg base C_Ruler "marks" 3 (FM cx (A := Rul) (R := List Int) (fun a => [(eRul C_Ruler) a]) (fun v => .sh ((eT eI) v)) (fun a => .ok (m_Ruler_marks a)))) (x_Ruler_len : SpecD P w K mg base C_Ruler "__len__" 3 ["self"] (FM cx (A := Rul) (R := Int) (fun a => [(eRul C_Ruler) a]) (fun v => .sh (eI v)) (fun a => .ok (m_Ruler___len a)))) : FnOk P w K mg base (L2.CX P w) 6 f fd ["name", "ruler"] (spD K (FM cx (A := S × Rul) (R := List Int) (fun a => [eZ a.1, (eRul C_Ruler) a.2]) (fun v => .fr ((eL eI) v)) (fun a => m_ruler_codes a.1 a.2))) := by
  refine def_ok F sc_ruler_codes (fun ds G post px h => ?_) (fun cdv A outer s H E F0 T hr ds G post px h tk hp => ?_)
  · obtain ⟨_, rfl, _⟩ := h; rfl
  obtain ⟨⟨name1, ruler2⟩, rfl, h⟩ := h
  unfold m_ruler_codes at h
  try dsimp only at h
  have nd := sc_ruler_codes.nd
  obtain ⟨q_Ruler_0, sl_Ruler_0⟩ := cl_Ruler.s0
  obtain ⟨q_Ruler_1, sl_Ruler_1⟩ := cl_Ruler.s1
  refine wb_env [.sh (eZ name1), .sh ((eRul C_Ruler) ruler2), .no, .no, .no, .no] rfl ?_
  -- 144
  refine wb_cons (ws_set 2 nd rfl (by walk_at "vis") ?_)
  refine we_bin ?_
  refine we_lst ?_
  refine wa_cons ?_
  refine we_b1 (x := "len") (id := "len") rfl B.len bt_len ?_
  refine we_var 0 rfl (by walk_at "vis") rfl ?_
  refine ⟨_, .inl rfl, ?_⟩
  obtain ⟨g3, h⟩ := Out.gd h
  refine t_lenS (x := name1) g3 ?_
  refine ⟨_, _, rfl, ?_⟩
  refine wa_nil ?_
  refine ⟨lt_ rfl, ?_⟩
  refine we_lcQ [("letter", 5)] rfl nd (blkOk_by (by rfl)) (lcS_preP (γ := List Int) [("letter", 5)] [.sh (eZ name1), .sh ((eRul C_Ruler) ruler2), .no, .no, .no, .no] (fun _ : Unit => G) (en := eC) eI ?_)
  refine ti_str ?_
  refine we_var 0 rfl (by walk_at "vis") rfl ?_
  refine ⟨name1, _, rfl, ?_⟩
  obtain ⟨g5, h⟩ := Out.gd h
  refine ⟨(chrs name1), (), _, _, _, _, rfl, g5, Wk.refl _, rfl, h, fun s6 x4 Q' h => ?_, fun l7 h => ?_⟩
  · skip
    rintro Y ⟨s1, H1, C1, cl, fp, rfl⟩
    refine wg_name 5 nd rfl (by walk_at "vis") (by decide) (lt_ rfl) ?_
    rintro Y ⟨s1, H1, C1, cl, fp, rfl⟩
    refine we_bin ?_
    refine we_sindex ?_
    refine we_globS rfl m_LETTERS ?_
    refine ⟨z_abcdefghijklmnopqrst, rfl, ?_⟩
    refine we_var 5 rfl (by walk_at "vis") rfl ?_
    obtain ⟨x8, hx8, h⟩ := Out.gt h
    refine ⟨_, _, rfl, hx8, ?_⟩
    refine we_int ?_
    refine ⟨_, _, .inl rfl, .inl rfl, ?_⟩
    refine opw_add ?_
    exact ⟨((x8 : Int) + (1 : Int)), (), _, rfl, Wk.refl _, rfl, h⟩
  obtain ⟨g9, h⟩ := Out.gd h
  refine ⟨_, _, .inl rfl, .inl rfl, ?_⟩
  refine t_cat (f := eI) [(name1.1.length : Int)] l7.1 g9 ?_
  refine ⟨lt_ rfl, _, rfl, ?_⟩
  refine wb_let h (fun found10 => [.sh (eZ name1), .sh ((eRul C_Ruler) ruler2), .own ((eL eI) found10), .no, .no, .no]) rfl fun found10 h => ?_
  -- 145
  refine wb_cons (ws_expr ?_)
  refine we_extendT (f := eI) ?_
  refine we_var 2 rfl (by walk_at "vis") rfl ?_
  refine ⟨_, found10, rfl, rfl, ?_⟩
  refine we_lst ?_
  refine wa_cons ?_
  refine we_prop cl_Ruler.cls p_Ruler_error hr ?_
  refine we_var 1 rfl (by walk_at "vis") rfl ?_
  refine ⟨_, rfl, ruler2, rfl, ?_⟩
  refine ⟨_, _, rfl, ?_⟩
  refine wa_cons ?_
  refine we_bin ?_
  refine we_b1 (x := "len") (id := "len") rfl B.len bt_len ?_
  refine we_var 1 rfl (by walk_at "vis") rfl ?_
  refine ⟨_, .inl rfl, ?_⟩
  obtain ⟨g13, h⟩ := Out.gd h
  refine c_lenI x_Ruler_len hr (fun G_ => ⟨ruler2, rfl, rfl, _, rfl, g13, ?_⟩)
  refine we_globI rfl m_MIN_MARKS ?_
  refine ⟨_, _, .inl rfl, .inl rfl, ?_⟩
  refine opw_sub ?_
  refine ⟨_, _, rfl, ?_⟩
  refine wa_nil ?_
  refine ⟨lt_ rfl, ?_⟩
  obtain ⟨g14, h⟩ := Out.gd h
  refine ⟨[m_Ruler_error ruler2, (m_Ruler___len ruler2) - (2 : Int)], _, found10, rfl, rfl, g14, ?_⟩
  refine wb_let h (fun found15 => [.sh (eZ name1), .sh ((eRul C_Ruler) ruler2), .own ((eL eI) found15), .no, .no, .no]) rfl fun found15 h => ?_
  -- 146
  refine wb_forO (β := List Int) [3, 4] (σT := List Int) (fun s16 => [.sh (eZ name1), .sh ((eRul C_Ruler) ruler2), .own ((eL eI) s16), .no, .no, .no]) (fun s16 => G) (eP eI eI) hp rfl ?_
  refine ti_zipT (f := eI) (g := eI) rfl B.zip ?_
  refine wa_cons ?_
  refine we_prop cl_Ruler.cls p_Ruler_marks hr ?_
  refine we_var 1 rfl (by walk_at "vis") rfl ?_
  refine ⟨_, rfl, ruler2, rfl, ?_⟩
  refine ⟨_, _, rfl, ?_⟩
  refine wa_cons ?_
  refine we_slice ?_
  refine we_prop cl_Ruler.cls p_Ruler_marks hr ?_
  refine we_var 1 rfl (by walk_at "vis") rfl ?_
  refine ⟨_, rfl, ruler2, rfl, ?_⟩
  refine wo_some ?_
  refine we_int ?_
  refine ⟨_, rfl, ?_⟩
  refine wo_none ?_
  refine ⟨_, .inl rfl, ?_⟩
  refine t_slT (f := eI) (xs := m_Ruler_marks ruler2) ?_
  refine ⟨_, _, rfl, ?_⟩
  refine wa_nil ?_
  obtain ⟨g21, h⟩ := Out.gd h
  refine ⟨(m_Ruler_marks ruler2), (pcut (m_Ruler_marks ruler2) (some (1 : Int)) none), rfl, g21, fun hl22 => ?_⟩
  refine ⟨((m_Ruler_marks ruler2).zip (pcut (m_Ruler_marks ruler2) (some (1 : Int)) none)), found15, _, _, _, _, rfl, (.eq (.eq (.eq (.no (.no (.no .nil)))))), rfl, h, fun s16 x18 Q' h => ?_, fun s17 h => ?_⟩
  · skip
    refine wg_pair 3 4 rfl nd rfl rfl (by walk_at "vis") (by walk_at "vis") (by decide) (by decide) (lt_ rfl) (lt_ rfl) ?_
    refine wb_env [.sh (eZ name1), .sh ((eRul C_Ruler) ruler2), .own ((eL eI) s16), .sh (eI x18.1), .sh (eI x18.2), .no] rfl ?_
    -- 147
    refine wb_cons (ws_expr ?_)
    refine we_extendU (f := eI) ?_
    refine we_var 2 rfl (by walk_at "vis") rfl ?_
    refine ⟨_, s16, rfl, rfl, ?_⟩
    refine we_b2 (x := "divmod") (id := "divmod") rfl xg_divmod bt_divmod ?_
    refine we_bin ?_
    refine we_var 4 rfl (by walk_at "vis") rfl ?_
    refine we_var 3 rfl (by walk_at "vis") rfl ?_
    refine ⟨_, _, .inl rfl, .inl rfl, ?_⟩
    refine opw_sub ?_
    refine we_globI rfl m_BASE ?_
    refine ⟨_, _, .inl rfl, .inl rfl, ?_⟩
    obtain ⟨g24, h⟩ := Out.gd h
    refine c_divmod g24 ?_
    obtain ⟨g25, h⟩ := Out.gd h
    refine ⟨[(x18.2 - x18.1) / (256 : Int), (x18.2 - x18.1) % (256 : Int)], _, s16, rfl, rfl, g25, ?_⟩
    refine wb_let h (fun found26 => [.sh (eZ name1), .sh ((eRul C_Ruler) ruler2), .own ((eL eI) found26), .sh (eI x18.1), .sh (eI x18.2), .no]) rfl fun found26 h => ?_
    exact wb_nil ⟨found26, (.eq (.eq (.eq (.no (.no (.no .nil)))))), rfl, h⟩
  -- 148
  refine wb_cons (ws_ret ?_)
  refine we_var 2 rfl (by walk_at "vis") rfl ?_
  refine ⟨_, rfl, ?_⟩
  exact h
theorem ok_encode_rack {f : Addr} {fd : FuncData} (F : Fun K "encode_rack" "encode_rack" s_encode_rack f fd) (B : Bn mg) (c_checksum : Cal P w K mg base "checksum" 3 ["values"] (FM cx (A := List Int) (R := Int) (fun a => [(eL eI) a]) (fun v => .sh (eI v)) (fun a => m_checksum a))) (c_ruler_codes : Cal P w K mg base "ruler_codes" 6 ["name", "ruler"] (FM cx (A := S × Rul) (R := List Int) (fun a => [eZ a.1, (eRul C_Ruler) a.2]) (fun v => .fr ((eL eI) v)) (fun a => m_ruler_codes a.1 a.2))) (cl_Rack : Cl_Rack K C_Rack) {t_FIRST : Tok} (m_FIRST : mg "FIRST" = some (.int 82 t_FIRST)) (p_Rack_names : PropD P w K mg base C_Rack "names" 3 (FM cx (A := Rak) (R := List S) (fun a => [(eRak C_Rack C_Ruler) a]) (fun v => .sh ((eT eZ) v)) (fun a => .ok (m_Rack_names a)))) (x_Rack_getitem : ItemD P w K mg base C_Rack 3 ["self", "name"] (FM cx (A := Rak × S) (R := Rul) (fun a => [(eRak C_Rack C_Ruler) a.1, eZ a.2]) (fun v => .sh ((eRul C_Ruler) v)) (fun a => m_Rack___getitem a.1 a.2))) (x_Rack_len : SpecD P w K mg base C_Rack "__len__" 3 ["self"] (FM cx (A := Rak) (R := Int) (fun a => [(eRak C_Rack C_Ruler) a]) (fun v => .sh (eI v)) (fun a => .ok (m_Rack___len a)))) : FnOk P w K mg base (L2.CX P w) 8 f fd ["rack"] (spD K (FM cx (A := Rak) (R := List Int) (fun a => [(eRak C_Rack C_Ruler) a]) (fun v => .fr ((eL eI) v)) (fun a => m_encode_rack a))) := by
  refine def_ok F sc_encode_rack (fun ds G post px h => ?_) (fun cdv A outer s H E F0 T hr ds G post px h tk hp => ?_)
  · obtain ⟨_, rfl, _⟩ := h; rfl
  obtain ⟨rack1, rfl, h⟩ := h
  unfold m_encode_rack at h
  try dsimp only at h
  have nd := sc_encode_rack.nd
  obtain ⟨q_Rack_0, sl_Rack_0⟩ := cl_Rack.s0
  refine wb_env [.sh ((eRak C_Rack C_Ruler) rack1), .no, .no] rfl ?_
  -- 150
  refine wb_cons (ws_set 1 nd rfl (by walk_at "vis") ?_)
  refine we_lst ?_
  refine wa_cons ?_
  refine we_globI rfl m_FIRST ?_
  refine ⟨_, _, rfl, ?_⟩
  refine wa_cons ?_
  refine we_b1 (x := "len") (id := "len") rfl B.len bt_len ?_
  refine we_var 0 rfl (by walk_at "vis") rfl ?_
  refine ⟨_, .inl rfl, ?_⟩
  obtain ⟨g2, h⟩ := Out.gd h
  refine c_lenI x_Rack_len hr (fun G_ => ⟨rack1, rfl, rfl, _, rfl, g2, ?_⟩)
  refine ⟨_, _, rfl, ?_⟩
  refine wa_nil ?_
  refine ⟨lt_ rfl, ?_⟩
  refine ⟨lt_ rfl, _, rfl, ?_⟩
  refine wb_let h (fun found3 => [.sh ((eRak C_Rack C_Ruler) rack1), .own ((eL eI) found3), .no]) rfl fun found3 h => ?_
  -- 151
  refine wb_forO (β := List Int) [2] (σT := List Int) (fun s4 => [.sh ((eRak C_Rack C_Ruler) rack1), .own ((eL eI) s4), .no]) (fun s4 => G) eZ hp rfl ?_
  refine ti_tup (f := eZ) ?_
  refine we_prop cl_Rack.cls p_Rack_names hr ?_
  refine we_var 0 rfl (by walk_at "vis") rfl ?_
  refine ⟨_, rfl, rack1, rfl, ?_⟩
  refine ⟨(m_Rack_names rack1), _, rfl, fun hl8 => ?_⟩
  refine ⟨(m_Rack_names rack1), found3, _, _, _, _, rfl, (.eq (.eq (.no .nil))), rfl, h, fun s4 x6 Q' h => ?_, fun s5 h => ?_⟩
  · skip
    refine wg_name 2 nd rfl (by walk_at "vis") (by decide) (lt_ rfl) ?_
    refine wb_env [.sh ((eRak C_Rack C_Ruler) rack1), .own ((eL eI) s4), .sh (eZ x6)] rfl ?_
    -- 152
    refine wb_cons (ws_expr ?_)
    refine we_extendT (f := eI) ?_
    refine we_var 1 rfl (by walk_at "vis") rfl ?_
    refine ⟨_, s4, rfl, rfl, ?_⟩
    refine we_cal tk c_ruler_codes hr rfl ?_
    refine wa_cons ?_
    refine we_var 2 rfl (by walk_at "vis") rfl ?_
    refine ⟨_, _, rfl, ?_⟩
    refine wa_cons ?_
    refine we_item x_Rack_getitem hr ?_
    refine we_var 0 rfl (by walk_at "vis") rfl ?_
    refine we_var 2 rfl (by walk_at "vis") rfl ?_
    refine ⟨_, _, _, rfl, rfl, ⟨(rack1, x6), rfl, (Out.nx (Out.sb h)).imp (fun r10 h => ?_) (fun _ he => he)⟩⟩
    refine ⟨_, _, rfl, ?_⟩
    refine wa_nil ?_
    refine ⟨(x6, r10), rfl, (Out.sb h).imp (fun r11 h => ?_) (fun _ he => he)⟩
    obtain ⟨g12, h⟩ := Out.gd h
    refine ⟨r11, _, s4, rfl, rfl, g12, ?_⟩
    refine wb_let h (fun found13 => [.sh ((eRak C_Rack C_Ruler) rack1), .own ((eL eI) found13), .sh (eZ x6)]) rfl fun found13 h => ?_
    exact wb_nil ⟨found13, (.eq (.eq (.no .nil))), rfl, h⟩
  -- 153
  refine wb_cons (ws_ret ?_)
  refine we_bin ?_
  refine we_var 1 rfl (by walk_at "vis") rfl ?_
  refine we_lst ?_
  refine wa_cons ?_
  refine we_cal tk c_checksum hr rfl ?_
  refine wa_cons ?_
  refine we_var 1 rfl (by walk_at "vis") rfl ?_
  refine ⟨_, _, rfl, ?_⟩
  refine wa_nil ?_
  refine ⟨s5, rfl, (Out.sb h).imp (fun r14 h => ?_) (fun _ he => he)⟩
  refine ⟨_, _, rfl, ?_⟩
  refine wa_nil ?_
  refine ⟨lt_ rfl, ?_⟩
  obtain ⟨g15, h⟩ := Out.gd h
  refine ⟨_, _, .inl rfl, .inl rfl, ?_⟩
  refine t_cat (f := eI) s5 [r14] g15 ?_
  refine ⟨_, rfl, ?_⟩
  exact h
theorem ok_law_marks {f : Addr} {fd : FuncData} (F : Fun K "_law_marks" "_law_marks" s_law_marks f fd) (B : Bn mg) (c_law_next : Cal P w K mg base "_law_next" 3 ["_law_h", "_law_limit"] (FBh (A := Int) (R := Int) (fun a => [eI a]) (fun v => .sh (eI v)) (fun a => m_law_next a))) : FnOk P w K mg base (L2.CX P w) 5 f fd ["_law_h", "_law_most", "_law_wide"] (spD K (FBh (A := Int × Int) (R := List Int) (fun a => [eI a.1, eI a.2]) (fun v => .sh ((eT eI) v)) (fun a => m_law_marks a.1 a.2))) := by
  refine def_ok F sc_law_marks (fun ds G post px h => ?_) (fun cdv A outer s H E F0 T hr ds G post px h tk hp => ?_)
  · obtain ⟨_, _, _, _, _, _, rfl, _⟩ := h; rfl
  obtain ⟨⟨most1, wide2⟩, G0, b, g, bx, hne, rfl, rfl, h⟩ := h
  unfold m_law_marks at h
  try dsimp only at h
  have nd := sc_law_marks.nd
  refine wb_env [.sh (.adr b), .sh (eI most1), .sh (eI wide2), .no, .no] rfl ?_
  -- 210
  refine wb_cons (ws_set 3 nd rfl (by walk_at "vis") ?_)
  refine we_lst ?_
  refine wa_cons ?_
  refine we_int ?_
  refine ⟨_, _, rfl, ?_⟩
  refine wa_nil ?_
  refine ⟨lt_ rfl, ?_⟩
  refine ⟨lt_ rfl, _, rfl, ?_⟩
  refine wb_let h (fun found3 => [.sh (.adr b), .sh (eI most1), .sh (eI wide2), .own ((eL eI) found3), .no]) rfl fun found3 h => ?_
  -- 211
  refine wb_forO (β := (List Int × Bh)) [4] (σT := (List Int) × Bh) (fun s4 => [.sh (.adr b), .sh (eI most1), .sh (eI wide2), .own ((eL eI) s4.1), .no]) (fun s4 => bxH G0 b g s4.2) eI hp rfl ?_
  refine wi_rng1 rfl B.range ?_
  refine we_bin ?_
  refine we_int ?_
  refine we_cal tk c_law_next hr rfl ?_
  refine wa_cons ?_
  refine we_var 0 rfl (by walk_at "vis") rfl ?_
  refine ⟨_, _, rfl, ?_⟩
  refine wa_cons ?_
  refine we_bin ?_
  refine we_var 1 rfl (by walk_at "vis") rfl ?_
  refine we_int ?_
  refine ⟨_, _, .inl rfl, .inl rfl, ?_⟩
  refine opw_sub ?_
  refine ⟨_, _, rfl, ?_⟩
  refine wa_nil ?_
  refine ⟨most1 - (1 : Int), G0, b, g, bx, hne, rfl, rfl, (Out.sb h).imp (fun r7 h => ?_) (fun _ he => he.elim)⟩
  refine ⟨_, _, .inl rfl, .inl rfl, ?_⟩
  refine opw_add ?_
  obtain ⟨g8, h⟩ := Out.gd h
  refine ⟨((1 : Int) + r7.1), rfl, g8, ?_⟩
  refine ⟨(rgI 0 ((1 : Int) + r7.1)), (found3, r7.2), _, _, _, _, rfl, (.eq (.eq (.eq (.eq (.no .nil))))), rfl, h, fun s4 x6 Q' h => ?_, fun s5 h => ?_⟩
  · skip
    refine wg_name 4 nd rfl (by walk_at "vis") (by decide) (lt_ rfl) ?_
    refine wb_env [.sh (.adr b), .sh (eI most1), .sh (eI wide2), .own ((eL eI) s4.1), .sh (eI x6)] rfl ?_
    -- 212
    refine wb_cons (ws_expr ?_)
    refine we_appendT (f := eI) ?_
    refine we_var 3 rfl (by walk_at "vis") rfl ?_
    refine ⟨_, s4.1, rfl, rfl, ?_⟩
    refine we_bin ?_
    refine we_bin ?_
    refine we_ix (fun _ _ => rfl) ?_
    refine we_var 3 rfl (by walk_at "vis") rfl ?_
    refine we_un rfl ?_
    refine we_int ?_
    refine ⟨_, rfl, ?_⟩
    obtain ⟨x10, hx10, h⟩ := Out.gt h
    refine ⟨_, _, .inl rfl, .inl rfl, ?_⟩
    refine t_ix (f := eI) hx10 ?_
    refine we_int ?_
    refine ⟨_, _, .inl rfl, .inl rfl, ?_⟩
    refine opw_add ?_
    refine we_cal tk c_law_next hr rfl ?_
    refine wa_cons ?_
    refine we_var 0 rfl (by walk_at "vis") rfl ?_
    refine ⟨_, _, rfl, ?_⟩
    refine wa_cons ?_
    refine we_var 2 rfl (by walk_at "vis") rfl ?_
    refine ⟨_, _, rfl, ?_⟩
    refine wa_nil ?_
    refine ⟨wide2, G0, b, g, s4.2, hne, rfl, rfl, (Out.sb h).imp (fun r11 h => ?_) (fun _ he => he.elim)⟩
    refine ⟨_, _, .inl rfl, .inl rfl, ?_⟩
    refine opw_add ?_
    obtain ⟨g12, h⟩ := Out.gd h
    refine ⟨((x10 + (1 : Int)) + r11.1), _, s4.1, rfl, rfl, g12, ?_⟩
    refine wb_let h (fun found13 => [.sh (.adr b), .sh (eI most1), .sh (eI wide2), .own ((eL eI) found13), .sh (eI x6)]) rfl fun found13 h => ?_
    exact wb_nil ⟨(found13, r11.2), (.eq (.eq (.eq (.eq (.no .nil))))), rfl, h⟩
  -- 213
  refine wb_cons (ws_ret ?_)
  refine we_t1 (x := "tuple") (id := "tuple") rfl B.tuple bt_tuple ?_
  refine we_var 3 rfl (by walk_at "vis") rfl ?_
  refine ⟨_, .inl rfl, ?_⟩
  refine c_tuple ?_
  refine ⟨_, rfl, ?_⟩
  exact h
theorem ok_law_sum {f : Addr} {fd : FuncData} (F : Fun K "_law_sum" "_law_sum" s_law_sum f fd) (B : Bn mg) : FnOk P w K mg base (L2.CX P w) 3 f fd ["_law_values"] (spD K (FM cx (A := List Int) (R := Int) (fun a => [(eL eI) a]) (fun v => .sh (eI v)) (fun a => m_law_sum a))) := by
  refine def_ok F sc_law_sum (fun ds G post px h => ?_) (fun cdv A outer s H E F0 T hr ds G post px h tk hp => ?_)
  · obtain ⟨_, rfl, _⟩ := h; rfl
  obtain ⟨values1, rfl, h⟩ := h
  unfold m_law_sum at h
  try dsimp only at h
  have nd := sc_law_sum.nd
  refine wb_env [.sh ((eL eI) values1), .no, .no] rfl ?_
  -- 215
  refine wb_cons (ws_set 1 nd rfl (by walk_at "vis") ?_)
  refine we_int ?_
  refine ⟨lt_ rfl, _, rfl, ?_⟩
  refine wb_let h (fun found2 => [.sh ((eL eI) values1), .sh (eI found2), .no]) rfl fun found2 h => ?_
  -- 216
  refine wb_forO (β := Int) [2] (σT := Int) (fun s3 => [.sh ((eL eI) values1), .sh (eI s3), .no]) (fun s3 => G) eI hp rfl ?_
  refine ti_lst (f := eI) ?_
  refine we_var 0 rfl (by walk_at "vis") rfl ?_
  refine ⟨values1, _, rfl, fun hl6 => ?_⟩
  refine ⟨values1, found2, _, _, _, _, rfl, (.eq (.eq (.no .nil))), rfl, h, fun s3 x5 Q' h => ?_, fun s4 h => ?_⟩
  · skip
    refine wg_name 2 nd rfl (by walk_at "vis") (by decide) (lt_ rfl) ?_
    refine wb_env [.sh ((eL eI) values1), .sh (eI s3), .sh (eI x5)] rfl ?_
    -- 217
    refine wb_cons (ws_set 1 nd rfl (by walk_at "vis") ?_)
    refine we_bin ?_
    refine we_t1 (x := "int") (id := "int") rfl B.int bt_int ?_
    refine we_bin ?_
    refine we_bin ?_
    refine we_var 1 rfl (by walk_at "vis") rfl ?_
    refine we_int ?_
    refine ⟨_, _, .inl rfl, .inl rfl, ?_⟩
    refine opw_mul (.inr ⟨by decide, by decide⟩) ?_
    refine we_var 2 rfl (by walk_at "vis") rfl ?_
    refine ⟨_, _, .inl rfl, .inl rfl, ?_⟩
    refine opw_add ?_
    refine ⟨_, .inl rfl, ?_⟩
    refine c_int ?_
    refine we_int ?_
    refine ⟨_, _, .inl rfl, .inl rfl, ?_⟩
    refine opw_mod (by decide) ?_
    refine ⟨lt_ rfl, _, rfl, ?_⟩
    refine wb_let h (fun found7 => [.sh ((eL eI) values1), .sh (eI found7), .sh (eI x5)]) rfl fun found7 h => ?_
    exact wb_nil ⟨found7, (.eq (.eq (.no .nil))), rfl, h⟩
  -- 218
  refine wb_cons (ws_ret ?_)
  refine we_var 1 rfl (by walk_at "vis") rfl ?_
  refine ⟨_, rfl, ?_⟩
  exact h
theorem ok_law_code {f : Addr} {fd : FuncData} (F : Fun K "_law_code" "_law_code" s_law_code f fd) (B : Bn mg) : FnOk P w K mg base (L2.CX P w) 3 f fd ["_law_drawn"] (spD K (FM cx (A := List (S × (List Int × Int))) (R := List Int) (fun a => [(eD kZ (eP (eT eI) eI)) a]) (fun v => .fr ((eL eI) v)) (fun a => m_law_code a))) := by
  refine def_ok F sc_law_code (fun ds G post px h => ?_) (fun cdv A outer s H E F0 T hr ds G post px h tk hp => ?_)
  · obtain ⟨_, rfl, _⟩ := h; rfl
  obtain ⟨drawn1, rfl, h⟩ := h
  unfold m_law_code at h
  try dsimp only at h
  have nd := sc_law_code.nd
  refine wb_env [.sh ((eD kZ (eP (eT eI) eI)) drawn1), .no, .no, .no, .no, .no, .no, .no] rfl ?_
  -- 220
  refine wb_cons (ws_set 1 nd rfl (by walk_at "vis") ?_)
  refine we_lst ?_
  refine wa_cons ?_
  refine we_int ?_
  refine ⟨_, _, rfl, ?_⟩
  refine wa_cons ?_
  refine we_b1 (x := "len") (id := "len") rfl B.len bt_len ?_
  refine we_var 0 rfl (by walk_at "vis") rfl ?_
  refine ⟨_, .inl rfl, ?_⟩
  refine t_lenD (k := kZ) (f := (eP (eT eI) eI)) drawn1 ?_
  refine ⟨_, _, rfl, ?_⟩
  refine wa_nil ?_
  refine ⟨lt_ rfl, ?_⟩
  refine ⟨lt_ rfl, _, rfl, ?_⟩
  refine wb_let h (fun found2 => [.sh ((eD kZ (eP (eT eI) eI)) drawn1), .own ((eL eI) found2), .no, .no, .no, .no, .no, .no]) rfl fun found2 h => ?_
  -- 221
  refine wb_forO (β := List Int) [2] (σT := List Int) (fun s3 => [.sh ((eD kZ (eP (eT eI) eI)) drawn1), .own ((eL eI) s3), .no, .no, .no, .no, .no, .no]) (fun s3 => G) eZ hp rfl ?_
  refine ti_keys (k := kZ) (f := (eP (eT eI) eI)) ?_
  refine we_var 0 rfl (by walk_at "vis") rfl ?_
  refine ⟨drawn1, _, rfl, fun hl6 => ?_⟩
  refine ⟨(drawn1.map (·.1)), found2, _, _, _, _, rfl, (.eq (.eq (.no (.no (.no (.no (.no (.no .nil)))))))), rfl, h, fun s3 x5 Q' h => ?_, fun s4 h => ?_⟩
  · skip
    refine wg_name 2 nd rfl (by walk_at "vis") (by decide) (lt_ rfl) ?_
    refine wb_env [.sh ((eD kZ (eP (eT eI) eI)) drawn1), .own ((eL eI) s3), .sh (eZ x5), .no, .no, .no, .no, .no] rfl ?_
    -- 222
    refine wb_cons (ws_unp2 3 4 rfl nd rfl rfl (by walk_at "vis") (by walk_at "vis") ?_)
    refine we_dget (k := kZ) (f := (eP (eT eI) eI)) kZ_inj (by exact hr.units) (fun _ _ => rfl) ?_
    refine we_var 0 rfl (by walk_at "vis") rfl ?_
    refine we_var 2 rfl (by walk_at "vis") rfl ?_
    obtain ⟨x7, hx7, h⟩ := Out.gt h
    refine ⟨drawn1, x5, _, .inl rfl, rfl, hx7, ?_⟩
    refine ⟨_, _, _, rfl, lt_ rfl, lt_ rfl, ?_⟩
    refine wb_let h (fun marks_here8 => [.sh ((eD kZ (eP (eT eI) eI)) drawn1), .own ((eL eI) s3), .sh (eZ x5), .sh ((eT eI) marks_here8), .sh (eI x7.2), .no, .no, .no]) rfl fun marks_here8 h => ?_
    refine wb_let h (fun error9 => [.sh ((eD kZ (eP (eT eI) eI)) drawn1), .own ((eL eI) s3), .sh (eZ x5), .sh ((eT eI) marks_here8), .sh (eI error9), .no, .no, .no]) rfl fun error9 h => ?_
    -- 223
    refine wb_cons (ws_set 1 nd rfl (by walk_at "vis") ?_)
    refine we_bin ?_
    refine we_bin ?_
    refine we_var 1 rfl (by walk_at "vis") rfl ?_
    refine we_lst ?_
    refine wa_cons ?_
    refine we_b1 (x := "len") (id := "len") rfl B.len bt_len ?_
    refine we_var 2 rfl (by walk_at "vis") rfl ?_
    refine ⟨_, .inl rfl, ?_⟩
    obtain ⟨g10, h⟩ := Out.gd h
    refine t_lenS (x := x5) g10 ?_
    refine ⟨_, _, rfl, ?_⟩
    refine wa_nil ?_
    refine ⟨lt_ rfl, ?_⟩
    obtain ⟨g11, h⟩ := Out.gd h
    refine ⟨_, _, .inl rfl, .inl rfl, ?_⟩
    refine t_cat (f := eI) s3 [(x5.1.length : Int)] g11 ?_
    refine we_lcQ [("_law_sign", 7)] rfl nd (blkOk_by (by rfl)) (lcS_preP (γ := (List Int)) [("_law_sign", 7)] [.sh ((eD kZ (eP (eT eI) eI)) drawn1), .own ((eL eI) s3), .sh (eZ x5), .sh ((eT eI) marks_here8), .sh (eI error9), .no, .no, .no] (fun _ : Unit => G) (en := eC) eI ?_)
    refine ti_str ?_
    refine we_var 2 rfl (by walk_at "vis") rfl ?_
    refine ⟨x5, _, rfl, ?_⟩
    obtain ⟨g13, h⟩ := Out.gd h
    refine ⟨(chrs x5), (), _, _, _, _, rfl, g13, Wk.refl _, rfl, h, fun s14 x12 Q' h => ?_, fun l15 h => ?_⟩
    · skip
      rintro Y ⟨s1, H1, C1, cl, fp, rfl⟩
      refine wg_name 7 nd rfl (by walk_at "vis") (by decide) (lt_ rfl) ?_
      rintro Y ⟨s1, H1, C1, cl, fp, rfl⟩
      refine we_bin ?_
      refine we_sindex ?_
      refine we_str ?_
      refine ⟨z_abcdefghijklmnopqrst, rfl, ?_⟩
      refine we_var 7 rfl (by walk_at "vis") rfl ?_
      obtain ⟨x16, hx16, h⟩ := Out.gt h
      refine ⟨_, _, rfl, hx16, ?_⟩
      refine we_int ?_
      refine ⟨_, _, .inl rfl, .inl rfl, ?_⟩
      refine opw_add ?_
      exact ⟨((x16 : Int) + (1 : Int)), (), _, rfl, Wk.refl _, rfl, h⟩
    obtain ⟨g17, h⟩ := Out.gd h
    refine ⟨_, _, .inl rfl, .inl rfl, ?_⟩
    refine t_cat (f := eI) (s3 ++ [(x5.1.length : Int)]) l15.1 g17 ?_
    refine ⟨lt_ rfl, _, rfl, ?_⟩
    refine wb_let h (fun found18 => [.sh ((eD kZ (eP (eT eI) eI)) drawn1), .own ((eL eI) found18), .sh (eZ x5), .sh ((eT eI) marks_here8), .sh (eI error9), .no, .no, .no]) rfl fun found18 h => ?_
    -- 224
    refine wb_cons (ws_set 1 nd rfl (by walk_at "vis") ?_)
    refine we_bin ?_
    refine we_var 1 rfl (by walk_at "vis") rfl ?_
    refine we_lst ?_
    refine wa_cons ?_
    refine we_var 4 rfl (by walk_at "vis") rfl ?_
    refine ⟨_, _, rfl, ?_⟩
    refine wa_cons ?_
    refine we_bin ?_
    refine we_b1 (x := "len") (id := "len") rfl B.len bt_len ?_
    refine we_var 3 rfl (by walk_at "vis") rfl ?_
    refine ⟨_, .inl rfl, ?_⟩
    refine t_lenT (f := eI) marks_here8 ?_
    refine we_int ?_
    refine ⟨_, _, .inl rfl, .inl rfl, ?_⟩
    refine opw_sub ?_
    refine ⟨_, _, rfl, ?_⟩
    refine wa_nil ?_
    refine ⟨lt_ rfl, ?_⟩
    obtain ⟨g19, h⟩ := Out.gd h
    refine ⟨_, _, .inl rfl, .inl rfl, ?_⟩
    refine t_cat (f := eI) found18 [error9, ((marks_here8).length : Int) - (2 : Int)] g19 ?_
    refine ⟨lt_ rfl, _, rfl, ?_⟩
    refine wb_let h (fun found20 => [.sh ((eD kZ (eP (eT eI) eI)) drawn1), .own ((eL eI) found20), .sh (eZ x5), .sh ((eT eI) marks_here8), .sh (eI error9), .no, .no, .no]) rfl fun found20 h => ?_
    -- 225
    refine wb_forO (β := (List Int)) [5] (σT := List Int) (fun s21 => [.sh ((eD kZ (eP (eT eI) eI)) drawn1), .own ((eL eI) s21), .sh (eZ x5), .sh ((eT eI) marks_here8), .sh (eI error9), .no, .no, .no]) (fun s21 => G) eI hp rfl ?_
    refine wi_rng2 rfl B.range ?_
    refine we_int ?_
    refine we_b1 (x := "len") (id := "len") rfl B.len bt_len ?_
    refine we_var 3 rfl (by walk_at "vis") rfl ?_
    refine ⟨_, .inl rfl, ?_⟩
    refine t_lenT (f := eI) marks_here8 ?_
    obtain ⟨g24, h⟩ := Out.gd h
    refine ⟨(1 : Int), ((marks_here8).length : Int), rfl, rfl, ⟨by decide, by decide⟩, g24, ?_⟩
    refine ⟨(rgI (1 : Int) ((marks_here8).length : Int)), found20, _, _, _, _, rfl, (.eq (.eq (.eq (.eq (.eq (.no (.no (.no .nil)))))))), rfl, h, fun s21 x23 Q' h => ?_, fun s22 h => ?_⟩
    · skip
      refine wg_name 5 nd rfl (by walk_at "vis") (by decide) (lt_ rfl) ?_
      refine wb_env [.sh ((eD kZ (eP (eT eI) eI)) drawn1), .own ((eL eI) s21), .sh (eZ x5), .sh ((eT eI) marks_here8), .sh (eI error9), .sh (eI x23), .no, .no] rfl ?_
      -- 226
      refine wb_cons (ws_set 6 nd rfl (by walk_at "vis") ?_)
      refine we_bin ?_
      refine we_ix (fun _ _ => rfl) ?_
      refine we_var 3 rfl (by walk_at "vis") rfl ?_
      refine we_var 5 rfl (by walk_at "vis") rfl ?_
      obtain ⟨x25, hx25, h⟩ := Out.gt h
      refine ⟨_, _, .inl rfl, .inl rfl, ?_⟩
      refine t_ixT (f := eI) hx25 ?_
      refine we_ix (fun _ _ => rfl) ?_
      refine we_var 3 rfl (by walk_at "vis") rfl ?_
      refine we_bin ?_
      refine we_var 5 rfl (by walk_at "vis") rfl ?_
      refine we_int ?_
      refine ⟨_, _, .inl rfl, .inl rfl, ?_⟩
      refine opw_sub ?_
      obtain ⟨x26, hx26, h⟩ := Out.gt h
      refine ⟨_, _, .inl rfl, .inl rfl, ?_⟩
      refine t_ixT (f := eI) hx26 ?_
      refine ⟨_, _, .inl rfl, .inl rfl, ?_⟩
      refine opw_sub ?_
      refine ⟨lt_ rfl, _, rfl, ?_⟩
      refine wb_let h (fun gap27 => [.sh ((eD kZ (eP (eT eI) eI)) drawn1), .own ((eL eI) s21), .sh (eZ x5), .sh ((eT eI) marks_here8), .sh (eI error9), .sh (eI x23), .sh (eI gap27), .no]) rfl fun gap27 h => ?_
      -- 227
      refine wb_cons (ws_set 1 nd rfl (by walk_at "vis") ?_)
      refine we_bin ?_
      refine we_var 1 rfl (by walk_at "vis") rfl ?_
      refine we_lst ?_
      refine wa_cons ?_
      refine we_bin ?_
      refine we_var 6 rfl (by walk_at "vis") rfl ?_
      refine we_int ?_
      refine ⟨_, _, .inl rfl, .inl rfl, ?_⟩
      refine opw_fdivE (⟨by decide, by decide⟩) ?_
      refine ⟨_, _, rfl, ?_⟩
      refine wa_cons ?_
      refine we_bin ?_
      refine we_t1 (x := "int") (id := "int") rfl B.int bt_int ?_
      refine we_var 6 rfl (by walk_at "vis") rfl ?_
      refine ⟨_, .inl rfl, ?_⟩
      refine c_int ?_
      refine we_int ?_
      refine ⟨_, _, .inl rfl, .inl rfl, ?_⟩
      refine opw_mod (by decide) ?_
      refine ⟨_, _, rfl, ?_⟩
      refine wa_nil ?_
      refine ⟨lt_ rfl, ?_⟩
      obtain ⟨g28, h⟩ := Out.gd h
      refine ⟨_, _, .inl rfl, .inl rfl, ?_⟩
      refine t_cat (f := eI) s21 [gap27 / (256 : Int), gap27 % (256 : Int)] g28 ?_
      refine ⟨lt_ rfl, _, rfl, ?_⟩
      refine wb_let h (fun found29 => [.sh ((eD kZ (eP (eT eI) eI)) drawn1), .own ((eL eI) found29), .sh (eZ x5), .sh ((eT eI) marks_here8), .sh (eI error9), .sh (eI x23), .sh (eI gap27), .no]) rfl fun found29 h => ?_
      exact wb_nil ⟨found29, (.eq (.eq (.eq (.eq (.eq (.no (.no (.no .nil)))))))), rfl, h⟩
    exact wb_nil ⟨s22, (.eq (.eq (.no (.no (.no (.no (.no (.no .nil)))))))), rfl, h⟩
  -- 228
  refine wb_cons (ws_ret ?_)
  refine we_var 1 rfl (by walk_at "vis") rfl ?_
  refine ⟨_, rfl, ?_⟩
  exact h
theorem ok_law_seen {f : Addr} {fd : FuncData} (F : Fun K "_law_seen" "_law_seen" s_law_seen f fd) (B : Bn mg) (c_decode_rack : Cal P w K mg base "decode_rack" 10 ["values"] (FM cx (A := List Int) (R := Rak) (fun a => [(eL eI) a]) (fun v => .sh ((eRak C_Rack C_Ruler) v)) (fun a => m_decode_rack a))) (ec_DecodeError : ExcC K (cx 21)) (emm_DecodeError : PySem.W.exmOne K (.ref (cx 21)) (.ref (cx 21)) = some true) (nf_DecodeError_offset : PySem.W.findIn K (.ref (cx 21)) "offset" = some none) (xf_DecodeError : L2.XfC K (cx 21)) (xm_DecodeError : mg "DecodeError" = some (.ref (cx 21))) : FnOk P w K mg base (L2.CX P w) 12 f fd ["_law_values"] (spD K (FM cx (A := List Int) (R := Int ⊕ Rak) (fun a => [(eL eI) a]) (fun v => .sh ((eSi (eRak C_Rack C_Ruler)) v)) (fun a => m_law_seen a))) := by
  refine def_ok F sc_law_seen (fun ds G post px h => ?_) (fun cdv A outer s H E F0 T hr ds G post px h tk hp => ?_)
  · obtain ⟨_, rfl, _⟩ := h; rfl
  obtain ⟨values1, rfl, h⟩ := h
  unfold m_law_seen at h
  try dsimp only at h
  have nd := sc_law_seen.nd
  refine wb_env [.sh ((eL eI) values1), .no] rfl ?_
  -- 230
  refine wb_cons (ws_tryA (cx := cx) (i := 1) h rfl rfl nd rfl rfl tk (by exact hr.units) rfl xm_DecodeError (lt_ rfl) (fun z v hv => ?_) (fun Y hY h => ?_) (fun Y z v ad hv hq hY => ?_))
  · skip
    try dsimp only at hv
    by_cases hc : z.n = 21
    · rw [hc]; exact emm_DecodeError
    rw [if_neg hc] at hv
    cases hv
  · skip
    obtain ⟨pn1, xe1, F1, T1, tk, hp, rfl⟩ := hY
    -- 231
    refine wb_cons (ws_ret ?_)
    refine we_cal tk c_decode_rack hr rfl ?_
    refine wa_cons ?_
    refine we_var 0 rfl (by walk_at "vis") rfl ?_
    refine ⟨_, _, rfl, ?_⟩
    refine wa_nil ?_
    refine ⟨values1, rfl, (Out.sb h).imp (fun r2 h => ?_) (fun x he => ⟨(.eq (.no .nil)), fun _ _ z => z, x, rfl, he⟩)⟩
    refine ⟨_, rfl, ?_⟩
    exact h
  obtain ⟨zn, zfs⟩ := z; try dsimp only at hv
  by_cases hc : zn = 21
  · skip
    subst hc; rw [if_pos rfl] at hv
    obtain ⟨f_offset, hx_offset, hv⟩ := Option.bind_eq_some_iff.mp hv; have hfs_offset := xfI_spec hx_offset; have hne := lookup_ne hfs_offset
    obtain ⟨oe, pn, d, F1, T1, hr, hz, hf, ex, rfl⟩ := hY
    have h := hq hv
    refine wb_env [.sh ((eL eI) values1), .sh (.adr ad)] rfl ?_
    -- 233
    refine wb_cons (ws_ret ?_)
    refine we_xf xf_DecodeError nf_DecodeError_offset hz hf ex hne hfs_offset ?_
    refine we_var 1 rfl (by walk_at "vis") rfl ?_
    refine ⟨rfl, ?_⟩
    refine ⟨_, rfl, ?_⟩
    exact h
  rw [if_neg hc] at hv
  cases hv
theorem ok_law {f : Addr} {fd : FuncData} (F : Fun K "law" "law" s_law f fd) (B : Bn mg) (c_law_mix : Cal P w K mg base "_law_mix" 3 ["_law_script", "_law_seed"] (FMix m_law_mix)) (c_law_code : Cal P w K mg base "_law_code" 3 ["_law_drawn"] (FM cx (A := List (S × (List Int × Int))) (R := List Int) (fun a => [(eD kZ (eP (eT eI) eI)) a]) (fun v => .fr ((eL eI) v)) (fun a => m_law_code a))) (c_law_marks : Cal P w K mg base "_law_marks" 5 ["_law_h", "_law_most", "_law_wide"] (FBh (A := Int × Int) (R := List Int) (fun a => [eI a.1, eI a.2]) (fun v => .sh ((eT eI) v)) (fun a => m_law_marks a.1 a.2))) (c_law_next : Cal P w K mg base "_law_next" 3 ["_law_h", "_law_limit"] (FBh (A := Int) (R := Int) (fun a => [eI a]) (fun v => .sh (eI v)) (fun a => m_law_next a))) (c_law_seen : Cal P w K mg base "_law_seen" 12 ["_law_values"] (FM cx (A := List Int) (R := Int ⊕ Rak) (fun a => [(eL eI) a]) (fun v => .sh ((eSi (eRak C_Rack C_Ruler)) v)) (fun a => m_law_seen a))) (c_law_sum : Cal P w K mg base "_law_sum" 3 ["_law_values"] (FM cx (A := List Int) (R := Int) (fun a => [(eL eI) a]) (fun v => .sh (eI v)) (fun a => m_law_sum a))) (c_encode_rack : Cal P w K mg base "encode_rack" 8 ["rack"] (FM cx (A := Rak) (R := List Int) (fun a => [(eRak C_Rack C_Ruler) a]) (fun v => .fr ((eL eI) v)) (fun a => m_encode_rack a))) (cl_Rack : Cl_Rack K C_Rack) (k_Rack : MakeD P w K mg base "Rack" C_Rack 5 ["self", "rulers"] (FMI cx (A := List (S × Rul)) (R := Rak) (fun a => [(eD kZ (eRul C_Ruler)) a]) (fun r => [eD kZ (eRul C_Ruler) r.held]) (fun a => mk_Rack a))) (k_Ruler : MakeD P w K mg base "Ruler" C_Ruler 5 ["self", "marks", "error"] (FMI cx (A := (List Int) × Int) (R := Rul) (fun a => [(eT eI) a.1, eI a.2]) (fun r => [.int r.error, .tup (r.marks.map D.int)]) (fun a => mk_Ruler a.1 a.2))) (ki_Rack : PySem.W.kitOne K (.ref C_Rack) (.type "int") = some false) (ne_Rack : NeOf K C_Rack) (x_Rack_eq : SpecD P w K mg base C_Rack "__eq__" 9 ["self", "other"] (FM cx (A := Rak × Rak) (R := Bool) (fun a => [(eRak C_Rack C_Ruler) a.1, (eRak C_Rack C_Ruler) a.2]) (fun v => .sh (eB v)) (fun a => m_Rack___eq a.1 a.2))) : FnOk P w K mg base (L2.CX P w) 14 f fd ["_law_script"] (spD K (FLaw m_law)) := by
  refine def_ok F sc_law (fun ds G post px h => ?_) (fun cdv A outer s H E F0 T hr ds G0 post px h tk hp => ?_)
  · obtain ⟨_, rfl, _⟩ := h; rfl
  obtain ⟨script1, rfl, h⟩ := h
  unfold m_law at h
  try dsimp only at h
  have nd := sc_law.nd
  obtain ⟨q_Rack_0, sl_Rack_0⟩ := cl_Rack.s0
  refine wb_env [.sh (D.scr script1), .no, .no, .no, .no, .no, .no, .no, .no, .no, .no, .no, .no] rfl ?_
  -- 235
  refine wb_cons (ws_set 1 nd rfl (by walk_at "vis") ?_)
  refine we_cal tk c_law_mix hr rfl ?_
  refine wa_cons ?_
  refine we_var 0 rfl (by walk_at "vis") rfl ?_
  refine ⟨_, _, rfl, ?_⟩
  refine wa_cons ?_
  refine we_int ?_
  refine ⟨_, _, rfl, ?_⟩
  refine wa_nil ?_
  obtain ⟨g2, h⟩ := Out.gd h
  refine ⟨script1, (91 : Int), g2, rfl, fun b g hne hb0 hg0 => ?_⟩
  rw [← mixT_pos (m := m_law_mix) (seed := (91 : Int)) g2]
  refine ⟨lt_ rfl, _, rfl, ?_⟩
  refine wb_env [.sh (D.scr script1), .sh (.adr b), .no, .no, .no, .no, .no, .no, .no, .no, .no, .no, .no] rfl ?_
  have hB : ∀ x', GS [bhA b g x'] (bxH G0 b g x') := fun x' => GS.boxH0 hne x'
  -- 236
  refine wb_forR (β := Bool) [2] (σT := Bh) (ρ := (Bool × Bh)) (fun s3 => [.sh (D.scr script1), .sh (.adr b), .no, .no, .no, .no, .no, .no, .no, .no, .no, .no, .no]) (fun s3 => bxH G0 b g s3) eI (fun v => (fun v => .sh (eB v)) v.1) (fun v => bxH G0 b g v.2) hp rfl ?_
  refine wi_rng1 rfl B.range ?_
  refine we_int ?_
  refine ⟨(4 : Int), rfl, ⟨by decide, by decide⟩, ?_⟩
  refine ⟨(rgI 0 (4 : Int)), (mixT m_law_mix script1 (91 : Int)), _, _, _, _, rfl, (.eq (.eq (.no (.no (.no (.no (.no (.no (.no (.no (.no (.no (.no .nil))))))))))))), rfl, h, fun s3 x5 Q' h => ?_, (fun v h => h _), fun s4 h => ?_⟩
  · skip
    refine wg_name 2 nd rfl (by walk_at "vis") (by decide) (lt_ rfl) ?_
    refine wb_env [.sh (D.scr script1), .sh (.adr b), .sh (eI x5), .no, .no, .no, .no, .no, .no, .no, .no, .no, .no] rfl ?_
    -- 237
    refine wb_cons (ws_parN [3, 4, 5, 6] rfl (.cons (pg_name nd rfl (by walk_at "vis")) (.cons (pg_name nd rfl (by walk_at "vis")) (.cons (pg_name nd rfl (by walk_at "vis")) (.cons (pg_name nd rfl (by walk_at "vis")) .nil)))) (fun t ht us => by simp only [List.mem_cons, List.not_mem_nil, or_false] at ht; rcases ht with rfl | rfl | rfl | rfl <;> rfl) ?_)
    refine wn_cons ?_
    refine we_lst ?_
    refine wa_cons ?_
    refine we_str ?_
    refine ⟨_, _, rfl, ?_⟩
    refine wa_cons ?_
    refine we_str ?_
    refine ⟨_, _, rfl, ?_⟩
    refine wa_cons ?_
    refine we_str ?_
    refine ⟨_, _, rfl, ?_⟩
    refine wa_cons ?_
    refine we_str ?_
    refine ⟨_, _, rfl, ?_⟩
    refine wa_cons ?_
    refine we_str ?_
    refine ⟨_, _, rfl, ?_⟩
    refine wa_cons ?_
    refine we_str ?_
    refine ⟨_, _, rfl, ?_⟩
    refine wa_nil ?_
    refine ⟨lt_ rfl, ?_⟩
    refine ⟨_, _, rfl, ?_⟩
    refine wn_cons ?_
    refine we_lst ?_
    refine wa_cons ?_
    refine we_int ?_
    refine ⟨_, _, rfl, ?_⟩
    refine wa_cons ?_
    refine we_bin ?_
    refine we_int ?_
    refine we_cal tk c_law_next hr rfl ?_
    refine wa_cons ?_
    refine we_var 1 rfl (by walk_at "vis") rfl ?_
    refine ⟨_, _, rfl, ?_⟩
    refine wa_cons ?_
    refine we_int ?_
    refine ⟨_, _, rfl, ?_⟩
    refine wa_nil ?_
    refine ⟨(3 : Int), G0, b, g, s3, hne, rfl, rfl, (Out.sb h).imp (fun r6 h => ?_) (fun _ he => he.elim)⟩
    refine ⟨_, _, .inl rfl, .inl rfl, ?_⟩
    refine opw_add ?_
    refine ⟨_, _, rfl, ?_⟩
    refine wa_nil ?_
    refine ⟨lt_ rfl, ?_⟩
    refine ⟨_, _, rfl, ?_⟩
    refine wn_cons ?_
    refine we_non ?_
    refine ⟨_, _, rfl, ?_⟩
    refine wn_cons ?_
    refine we_str ?_
    refine ⟨_, _, rfl, ?_⟩
    refine wn_nil ?_
    refine ⟨rfl, by show 4 ≤ 100; decide, all_lt (n := 13) rfl rfl, ?_⟩
    refine wb_let h (fun names7 => [.sh (D.scr script1), .sh (.adr b), .sh (eI x5), .own ((eL eZ) names7), .own ((eL eI) [(82 : Int), (2 : Int) + r6.1]), .sh ((eO eI) none), .sh (eZ z_), .no, .no, .no, .no, .no, .no]) rfl fun names7 h => ?_
    refine wb_let h (fun found8 => [.sh (D.scr script1), .sh (.adr b), .sh (eI x5), .own ((eL eZ) names7), .own ((eL eI) found8), .sh ((eO eI) none), .sh (eZ z_), .no, .no, .no, .no, .no, .no]) rfl fun found8 h => ?_
    refine wb_let h (fun wrong9 => [.sh (D.scr script1), .sh (.adr b), .sh (eI x5), .own ((eL eZ) names7), .own ((eL eI) found8), .sh ((eO eI) wrong9), .sh (eZ z_), .no, .no, .no, .no, .no, .no]) rfl fun wrong9 h => ?_
    refine wb_let h (fun last10 => [.sh (D.scr script1), .sh (.adr b), .sh (eI x5), .own ((eL eZ) names7), .own ((eL eI) found8), .sh ((eO eI) wrong9), .sh (eZ last10), .no, .no, .no, .no, .no, .no]) rfl fun last10 h => ?_
    -- 238
    refine wb_cons (ws_set 7 nd rfl (by walk_at "vis") ?_)
    refine we_dnew ?_
    refine ⟨lt_ rfl, _, rfl, ?_⟩
    refine wb_let h (fun table11 => [.sh (D.scr script1), .sh (.adr b), .sh (eI x5), .own ((eL eZ) names7), .own ((eL eI) found8), .sh ((eO eI) wrong9), .sh (eZ last10), .own ((eD kZ (eRul C_Ruler)) table11), .no, .no, .no, .no, .no]) rfl fun table11 h => ?_
    -- 239
    refine wb_forO (β := (Out.Rt (Bh) (Bool × Bh))) [8] (σT := (Option (Int)) × (List Int) × S × (List (S × Rul)) × Bh) (fun s12 => [.sh (D.scr script1), .sh (.adr b), .sh (eI x5), .own ((eL eZ) names7), .own ((eL eI) s12.2.1), .sh ((eO eI) s12.1), .sh (eZ s12.2.2.1), .own ((eD kZ (eRul C_Ruler)) s12.2.2.2.1), .no, .no, .no, .no, .no]) (fun s12 => bxH G0 b g s12.2.2.2.2) eI hp rfl ?_
    refine wi_rng1 rfl B.range ?_
    refine we_ix (fun _ _ => rfl) ?_
    refine we_var 4 rfl (by walk_at "vis") rfl ?_
    refine we_int ?_
    obtain ⟨x15, hx15, h⟩ := Out.gt h
    refine ⟨_, _, .inl rfl, .inl rfl, ?_⟩
    refine t_ix (f := eI) hx15 ?_
    obtain ⟨g16, h⟩ := Out.gd h
    refine ⟨x15, rfl, g16, ?_⟩
    refine ⟨(rgI 0 x15), (wrong9, found8, last10, table11, r6.2), _, _, _, _, rfl, (.eq (.eq (.eq (.eq (.eq (.eq (.eq (.eq (.no (.no (.no (.no (.no .nil))))))))))))), rfl, h, fun s12 x14 Q' h => ?_, fun s13 h => ?_⟩
    · skip
      refine wg_name 8 nd rfl (by walk_at "vis") (by decide) (lt_ rfl) ?_
      refine wb_env [.sh (D.scr script1), .sh (.adr b), .sh (eI x5), .own ((eL eZ) names7), .own ((eL eI) s12.2.1), .sh ((eO eI) s12.1), .sh (eZ s12.2.2.1), .own ((eD kZ (eRul C_Ruler)) s12.2.2.2.1), .sh (eI x14), .no, .no, .no, .no] rfl ?_
      -- 240
      refine wb_cons (ws_par 9 10 rfl nd rfl rfl (by decide) rfl rfl (by rfl) ?_)
      refine we_ix (fun _ _ => rfl) ?_
      refine we_var 3 rfl (by walk_at "vis") rfl ?_
      refine we_b2 (x := "min") (id := "min") rfl B.min bt_min ?_
      refine we_int ?_
      refine we_bin ?_
      refine we_var 8 rfl (by walk_at "vis") rfl ?_
      refine we_cal tk c_law_next hr rfl ?_
      refine wa_cons ?_
      refine we_var 1 rfl (by walk_at "vis") rfl ?_
      refine ⟨_, _, rfl, ?_⟩
      refine wa_cons ?_
      refine we_int ?_
      refine ⟨_, _, rfl, ?_⟩
      refine wa_nil ?_
      refine ⟨(3 : Int), G0, b, g, s12.2.2.2.2, hne, rfl, rfl, (Out.sb h).imp (fun r17 h => ?_) (fun _ he => he.elim)⟩
      refine ⟨_, _, .inl rfl, .inl rfl, ?_⟩
      refine opw_add ?_
      refine ⟨_, _, .inl rfl, .inl rfl, ?_⟩
      refine c_min2 rfl ?_
      obtain ⟨x18, hx18, h⟩ := Out.gt h
      refine ⟨_, _, .inl rfl, .inl rfl, ?_⟩
      refine t_ix (f := eZ) hx18 ?_
      refine ⟨_, _, rfl, ?_⟩
      refine we_cal tk c_law_marks hr rfl ?_
      refine wa_cons ?_
      refine we_var 1 rfl (by walk_at "vis") rfl ?_
      refine ⟨_, _, rfl, ?_⟩
      refine wa_cons ?_
      refine we_int ?_
      refine ⟨_, _, rfl, ?_⟩
      refine wa_cons ?_
      refine we_int ?_
      refine ⟨_, _, rfl, ?_⟩
      refine wa_nil ?_
      refine ⟨((4 : Int), (9 : Int)), G0, b, g, r17.2, hne, rfl, rfl, (Out.sb h).imp (fun r19 h => ?_) (fun _ he => he.elim)⟩
      refine ⟨_, _, rfl, lt_ rfl, lt_ rfl, ?_⟩
      refine wb_let h (fun name20 => [.sh (D.scr script1), .sh (.adr b), .sh (eI x5), .own ((eL eZ) names7), .own ((eL eI) s12.2.1), .sh ((eO eI) s12.1), .sh (eZ s12.2.2.1), .own ((eD kZ (eRul C_Ruler)) s12.2.2.2.1), .sh (eI x14), .sh (eZ name20), .sh ((eT eI) r19.1), .no, .no]) rfl fun name20 h => ?_
      refine wb_let h (fun marks_here21 => [.sh (D.scr script1), .sh (.adr b), .sh (eI x5), .own ((eL eZ) names7), .own ((eL eI) s12.2.1), .sh ((eO eI) s12.1), .sh (eZ s12.2.2.1), .own ((eD kZ (eRul C_Ruler)) s12.2.2.2.1), .sh (eI x14), .sh (eZ name20), .sh ((eT eI) marks_here21), .no, .no]) rfl fun marks_here21 h => ?_
      -- 241
      refine wb_cons (ws_set 5 nd rfl (by walk_at "vis") ?_)
      refine we_ifP (en := (eO eI)) (va := some ((s12.2.1).length : Int)) (vb := s12.1) ?_
      refine wt_w ?_
      refine ww_andB ?_
      refine wt_cmp (nomark _) ?_
      refine we_var 5 rfl (by walk_at "vis") rfl ?_
      refine we_non ?_
      refine ⟨_, _, .inl rfl, .inl rfl, ?_⟩
      refine t_isN (fun _ => rfl) ?_
      refine ⟨_, rfl, ?_⟩
      refine ⟨(leC eZ name20 s12.2.2.1), fun _ => ?_, ?_⟩
      · skip
        refine ww_and1 ?_
        refine wt_cmp (nomark _) ?_
        refine we_var 9 rfl (by walk_at "vis") rfl ?_
        refine we_var 6 rfl (by walk_at "vis") rfl ?_
        refine ⟨_, _, .inl rfl, .inl rfl, ?_⟩
        refine opw_leC orc_str (by exact hr.units) name20 s12.2.2.1 ?_
        refine ⟨_, rfl, ?_⟩
        exact ⟨rfl, rfl, rfl⟩
      refine ⟨fun _ => ?_, fun _ => ?_, ?_⟩
      · skip
        refine we_b1 (x := "len") (id := "len") rfl B.len bt_len ?_
        refine we_var 4 rfl (by walk_at "vis") rfl ?_
        refine ⟨_, .inl rfl, ?_⟩
        refine t_len (f := eI) s12.2.1 ?_
        exact ⟨rfl, rfl, rfl⟩
      · skip
        refine we_var 5 rfl (by walk_at "vis") rfl ?_
        exact ⟨rfl, rfl, rfl⟩
      refine ⟨lt_ rfl, _, rfl, ?_⟩
      refine wb_let h (fun wrong22 => [.sh (D.scr script1), .sh (.adr b), .sh (eI x5), .own ((eL eZ) names7), .own ((eL eI) s12.2.1), .sh ((eO eI) wrong22), .sh (eZ s12.2.2.1), .own ((eD kZ (eRul C_Ruler)) s12.2.2.2.1), .sh (eI x14), .sh (eZ name20), .sh ((eT eI) marks_here21), .no, .no]) rfl fun wrong22 h => ?_
      -- 242
      refine wb_cons (ws_par 4 6 rfl nd rfl rfl (by decide) rfl rfl (by rfl) ?_)
      refine we_bin ?_
      refine we_var 4 rfl (by walk_at "vis") rfl ?_
      refine we_slice ?_
      refine we_cal tk c_law_code hr rfl ?_
      refine wa_cons ?_
      refine we_lock ?_
      refine we_dispT1 (k := kZ) (f := (eP (eT eI) eI)) kZ_inj ?_
      refine wpr_cons ?_
      refine we_var 9 rfl (by walk_at "vis") rfl ?_
      refine ⟨name20, rfl, ?_⟩
      refine we_tup ?_
      refine wa_cons ?_
      refine we_var 10 rfl (by walk_at "vis") rfl ?_
      refine ⟨_, _, rfl, ?_⟩
      refine wa_cons ?_
      refine we_var 8 rfl (by walk_at "vis") rfl ?_
      refine ⟨_, _, rfl, ?_⟩
      refine wa_nil ?_
      refine ⟨lt_ rfl, ?_⟩
      refine ⟨(marks_here21, x14), _, rfl, ?_⟩
      refine wpr_nil ?_
      refine ⟨_, _, rfl, ?_⟩
      refine ⟨_, _, rfl, ?_⟩
      refine wa_nil ?_
      refine ⟨dmk [(name20, (marks_here21, x14))], rfl, (Out.sb h).imp (fun r23 h => ?_) (fun _ he => he.elim)⟩
      refine wo_some ?_
      refine we_int ?_
      refine ⟨_, rfl, ?_⟩
      refine wo_none ?_
      refine ⟨_, .inl rfl, ?_⟩
      refine t_sl (f := eI) (xs := r23) ?_
      obtain ⟨g24, h⟩ := Out.gd h
      refine ⟨_, _, .inl rfl, .inl rfl, ?_⟩
      refine t_cat (f := eI) s12.2.1 (pcut r23 (some (2 : Int)) none) g24 ?_
      refine ⟨_, _, rfl, ?_⟩
      refine we_var 9 rfl (by walk_at "vis") rfl ?_
      refine ⟨_, _, rfl, lt_ rfl, lt_ rfl, ?_⟩
      refine wb_let h (fun found25 => [.sh (D.scr script1), .sh (.adr b), .sh (eI x5), .own ((eL eZ) names7), .own ((eL eI) found25), .sh ((eO eI) wrong22), .sh (eZ name20), .own ((eD kZ (eRul C_Ruler)) s12.2.2.2.1), .sh (eI x14), .sh (eZ name20), .sh ((eT eI) marks_here21), .no, .no]) rfl fun found25 h => ?_
      refine wb_let h (fun last26 => [.sh (D.scr script1), .sh (.adr b), .sh (eI x5), .own ((eL eZ) names7), .own ((eL eI) found25), .sh ((eO eI) wrong22), .sh (eZ last26), .own ((eD kZ (eRul C_Ruler)) s12.2.2.2.1), .sh (eI x14), .sh (eZ name20), .sh ((eT eI) marks_here21), .no, .no]) rfl fun last26 h => ?_
      -- 243
      refine wb_cons (ws_dput (k := kZ) (f := (eRul C_Ruler)) kZ_inj (by exact hr.units) ?_)
      refine we_make tk k_Ruler hr rfl ?_
      refine wa_cons ?_
      refine we_var 10 rfl (by walk_at "vis") rfl ?_
      refine ⟨_, _, rfl, ?_⟩
      refine wa_cons ?_
      refine we_var 8 rfl (by walk_at "vis") rfl ?_
      refine ⟨_, _, rfl, ?_⟩
      refine wa_nil ?_
      refine ⟨(marks_here21, x14), rfl, (Out.sb h).imp (fun r27 h => ?_) (fun _ he => he.elim)⟩
      refine ⟨r27, _, rfl, ?_⟩
      refine we_var 7 rfl (by walk_at "vis") rfl ?_
      refine ⟨_, rfl, ?_⟩
      refine we_var 9 rfl (by walk_at "vis") rfl ?_
      obtain ⟨g28, h⟩ := Out.gd h
      refine ⟨s12.2.2.2.1, name20, rfl, rfl, g28, ?_⟩
      refine wb_let h (fun table29 => [.sh (D.scr script1), .sh (.adr b), .sh (eI x5), .own ((eL eZ) names7), .own ((eL eI) found25), .sh ((eO eI) wrong22), .sh (eZ last26), .own ((eD kZ (eRul C_Ruler)) table29), .sh (eI x14), .sh (eZ name20), .sh ((eT eI) marks_here21), .no, .no]) rfl fun table29 h => ?_
      exact wb_nil ⟨(wrong22, found25, last26, table29, r19.2), (.eq (.eq (.eq (.eq (.eq (.eq (.eq (.eq (.no (.no (.no (.no (.no .nil))))))))))))), rfl, h⟩
    -- 244
    refine wb_lock 7 rfl ?_
    refine wb_env [.sh (D.scr script1), .sh (.adr b), .sh (eI x5), .own ((eL eZ) names7), .own ((eL eI) s13.2.1), .sh ((eO eI) s13.1), .sh (eZ s13.2.2.1), .sh ((eD kZ (eRul C_Ruler)) s13.2.2.2.1), .no, .no, .no, .no, .no] rfl ?_
    refine wb_cons (ws_set 11 nd rfl (by walk_at "vis") ?_)
    refine we_ifN (eSi (eRak C_Rack C_Ruler)) ?_
    refine wt_cmp (nomark _) ?_
    refine we_var 5 rfl (by walk_at "vis") rfl ?_
    refine we_non ?_
    refine ⟨_, _, .inl rfl, .inl rfl, ?_⟩
    refine t_notN (fun _ => rfl) ?_
    refine ⟨_, rfl, ?_⟩
    refine ⟨_, _, _, _, _, _, h, fun _ Q' h => ?_, fun _ Q' h => ?_, fun i30 h => ?_⟩
    · skip
      refine we_some (f := eI) ?_
      refine we_var 5 rfl (by walk_at "vis") rfl ?_
      obtain ⟨y31, hy31, h⟩ := Out.gt h
      refine ⟨s13.1, y31, rfl, hy31, ?_⟩
      exact ⟨_, rfl, rfl, rfl, h⟩
    · skip
      refine we_make tk k_Rack hr rfl ?_
      refine wa_cons ?_
      refine we_var 7 rfl (by walk_at "vis") rfl ?_
      refine ⟨_, _, rfl, ?_⟩
      refine wa_nil ?_
      refine ⟨s13.2.2.2.1, rfl, (Out.sb h).imp (fun r32 h => ?_) (fun _ he => he.elim)⟩
      exact ⟨_, rfl, rfl, rfl, h⟩
    refine ⟨lt_ rfl, _, rfl, ?_⟩
    refine wb_env [.sh (D.scr script1), .sh (.adr b), .sh (eI x5), .own ((eL eZ) names7), .own ((eL eI) s13.2.1), .sh ((eO eI) s13.1), .sh (eZ s13.2.2.1), .sh ((eD kZ (eRul C_Ruler)) s13.2.2.2.1), .no, .no, .no, .sh ((eSi (eRak C_Rack C_Ruler)) i30), .no] rfl ?_
    -- 245
    refine wb_cons (ws_set 12 nd rfl (by walk_at "vis") ?_)
    refine we_cal tk c_law_seen hr rfl ?_
    refine wa_cons ?_
    refine we_bin ?_
    refine we_var 4 rfl (by walk_at "vis") rfl ?_
    refine we_lst ?_
    refine wa_cons ?_
    refine we_cal tk c_law_sum hr rfl ?_
    refine wa_cons ?_
    refine we_var 4 rfl (by walk_at "vis") rfl ?_
    refine ⟨_, _, rfl, ?_⟩
    refine wa_nil ?_
    refine ⟨s13.2.1, rfl, (Out.sb h).imp (fun r33 h => ?_) (fun _ he => he.elim)⟩
    refine ⟨_, _, rfl, ?_⟩
    refine wa_nil ?_
    refine ⟨lt_ rfl, ?_⟩
    obtain ⟨g34, h⟩ := Out.gd h
    refine ⟨_, _, .inl rfl, .inl rfl, ?_⟩
    refine t_cat (f := eI) s13.2.1 [r33] g34 ?_
    refine ⟨_, _, rfl, ?_⟩
    refine wa_nil ?_
    refine ⟨s13.2.1 ++ [r33], rfl, (Out.sb h).imp (fun r35 h => ?_) (fun _ he => he.elim)⟩
    refine ⟨lt_ rfl, _, rfl, ?_⟩
    refine wb_env [.sh (D.scr script1), .sh (.adr b), .sh (eI x5), .own ((eL eZ) names7), .sh ((eL eI) s13.2.1), .sh ((eO eI) s13.1), .sh (eZ s13.2.2.1), .sh ((eD kZ (eRul C_Ruler)) s13.2.2.2.1), .no, .no, .no, .sh ((eSi (eRak C_Rack C_Ruler)) i30), .sh ((eSi (eRak C_Rack C_Ruler)) r35)] rfl ?_
    -- 246
    refine wb_cons (ws_if ?_)
    refine wt_w ?_
    refine ww_orB ?_
    refine wt_cmp (nomark _) ?_
    refine we_var 12 rfl (by walk_at "vis") rfl ?_
    refine we_var 11 rfl (by walk_at "vis") rfl ?_
    refine ⟨_, _, .inl rfl, .inl rfl, ?_⟩
    refine opw_neSi (fun _ => rfl) x_Rack_eq ne_Rack hr (fun a b G_ Q' h => ⟨(a, b), rfl, (Out.nx h).imp (fun r h => ⟨rfl, r, rfl, h⟩) (fun _ he => he)⟩) r35 i30 ((Out.nx (Out.sb h)).imp (fun r36 h => ?_) (fun _ he => he))
    refine ⟨_, rfl, ?_⟩
    refine ⟨(!decide (r35.isLeft = i30.isLeft)), fun _ => ?_, ?_⟩
    · skip
      refine ww_or1 ?_
      refine wt_cmp (nomark _) ?_
      refine we_isiSi2 (f := (eRak C_Rack C_Ruler)) (C := C_Rack) (fun _ => rfl) cl_Rack.cls cl_Rack.isi ki_Rack rfl B.isinstance bt_isinstance rfl B.int bt_int ?_
      refine we_var 12 rfl (by walk_at "vis") rfl ?_
      refine ⟨r35, rfl, ?_⟩
      refine we_isiSi2 (f := (eRak C_Rack C_Ruler)) (C := C_Rack) (fun _ => rfl) cl_Rack.cls cl_Rack.isi ki_Rack rfl B.isinstance bt_isinstance rfl B.int bt_int ?_
      refine we_var 11 rfl (by walk_at "vis") rfl ?_
      refine ⟨i30, rfl, ?_⟩
      refine ⟨_, _, .inl rfl, .inl rfl, ?_⟩
      refine opw_neC eqc_bool (by exact hr.units) r35.isLeft i30.isLeft ?_
      refine ⟨_, rfl, ?_⟩
      exact ⟨rfl, rfl, rfl⟩
    refine ⟨fun hc => ?_, fun hc => ?_⟩
    · skip
      have h := (Out.iteb h).1 hc
      -- 247
      refine wb_cons (ws_ret ?_)
      refine we_bl ?_
      refine ⟨_, rfl, ?_⟩
      exact ⟨(false, s13.2.2.2.2), rfl, rfl, h⟩
    have h := (Out.iteb h).2 hc
    refine wb_nil ?_
    -- 248
    refine wb_cons (ws_if ?_)
    refine wt_w ?_
    refine ww_andN ?_
    refine wt_cmp (nomark _) ?_
    refine we_var 5 rfl (by walk_at "vis") rfl ?_
    refine we_non ?_
    refine ⟨_, _, .inl rfl, .inl rfl, ?_⟩
    refine t_isN (fun _ => rfl) ?_
    refine ⟨_, rfl, ?_⟩
    refine ⟨_, _, _, _, _, h, fun _ Q' h => ?_, fun c37 h => ?_⟩
    · skip
      refine ww_and1 ?_
      refine wt_cmp (nomark _) ?_
      refine we_cal tk c_encode_rack hr rfl ?_
      refine wa_cons ?_
      refine we_siR (f := (eRak C_Rack C_Ruler)) ?_
      refine we_var 11 rfl (by walk_at "vis") rfl ?_
      obtain ⟨y38, hy38, h⟩ := Out.gt h
      refine ⟨i30, y38, rfl, hy38, ?_⟩
      refine ⟨_, _, rfl, ?_⟩
      refine wa_nil ?_
      refine ⟨y38, rfl, (Out.sb h).imp (fun r39 h => ?_) (fun _ he => he.elim)⟩
      refine we_bin ?_
      refine we_var 4 rfl (by walk_at "vis") rfl ?_
      refine we_lst ?_
      refine wa_cons ?_
      refine we_cal tk c_law_sum hr rfl ?_
      refine wa_cons ?_
      refine we_var 4 rfl (by walk_at "vis") rfl ?_
      refine ⟨_, _, rfl, ?_⟩
      refine wa_nil ?_
      refine ⟨s13.2.1, rfl, (Out.sb h).imp (fun r40 h => ?_) (fun _ he => he.elim)⟩
      refine ⟨_, _, rfl, ?_⟩
      refine wa_nil ?_
      refine ⟨lt_ rfl, ?_⟩
      obtain ⟨g41, h⟩ := Out.gd h
      refine ⟨_, _, .inl rfl, .inl rfl, ?_⟩
      refine t_cat (f := eI) s13.2.1 [r40] g41 ?_
      refine ⟨_, _, .inl rfl, .inl rfl, ?_⟩
      refine opw_neC (eqc_lst eqc_int) (by exact hr.units) r39 (s13.2.1 ++ [r40]) ?_
      refine ⟨_, rfl, ?_⟩
      exact ⟨rfl, rfl, h⟩
    refine ⟨fun hc => ?_, fun hc => ?_⟩
    · skip
      have h := (Out.iteb h).1 hc
      -- 249
      refine wb_cons (ws_ret ?_)
      refine we_bl ?_
      refine ⟨_, rfl, ?_⟩
      exact ⟨(false, s13.2.2.2.2), rfl, rfl, h⟩
    have h := (Out.iteb h).2 hc
    refine wb_nil ?_
    exact wb_nil ⟨s13.2.2.2.2, (.eq (.eq (.no (.no (.no (.no (.no (.no (.no (.no (.no (.no (.no .nil))))))))))))), rfl, h⟩
  -- 250
  refine wb_cons (ws_ret ?_)
  refine we_bl ?_
  refine ⟨_, rfl, ?_⟩
  exact h _
theorem law_sp {K : PySem.W.Frag} {H : Hp} {a : Addr} {ns : List Int} (hl : ns.length ≤ 63) (hS : SqL K H a (ns.map V.int)) : spD K (FLaw m_law) [.ref a] H (fun v _ => v = .bl true) fun _ _ _ => False :=
  ⟨H, fun _ => none, [.scr ns], fun x _ => x = .sh (.bl true), fun _ _ => False, Ex.refl _, (fun _ _ h => nomatch h), (fun _ _ h => nomatch h), ⟨_, _, rfl, ⟨a, rfl, hS⟩, rfl⟩, ⟨ns, rfl, by rw [law_true ns hl]; exact fun _ => rfl⟩, (fun x G' v H' F' hp B rt => by subst hp; exact rt), fun _ _ _ _ _ _ z => z.elim⟩
theorem all_mk {l : PySem.W.OpenLaw} {w : World} {K : PySem.W.Frag} {h : Heap} {mg : Str → Option Value} {fa : Addr} (X : K.In h) (G : h.Ns mainGlobals mg) (hfa : mg "law" = some (.ref fa))
    {t_CHECK : Tok} {t_LETTERS : Tok} {t_MAX_LETTERS : Tok} {t_MAX_RULERS : Tok} {t_MAX_ERROR : Tok} {t_MAX_LENGTH : Tok} {t_MAX_MARKS : Tok} {t_MIN_MARKS : Tok} {t_FIRST : Tok} {t_BASE : Tok} {C_Ruler : Addr} {q_Ruler_own_error : Addr} {q_Ruler_own_marks : Addr} {C_Rack : Addr} {q_Rack_held : Addr} {C_Reader : Addr} {q_Reader_codes : Addr} {q_Reader_offset : Addr} {Cx_0 : Addr} {Cx_1 : Addr} {Cx_2 : Addr} {Cx_3 : Addr} {Cx_21 : Addr} {fI_InvalidRuler cc_InvalidRuler cda_InvalidRuler : Addr} {woc_InvalidRuler wccl_InvalidRuler wcl_InvalidRuler wdoc_InvalidRuler wpm_InvalidRuler wct_InvalidRuler : Value} {wod_InvalidRuler wcdd_InvalidRuler wcld_InvalidRuler wan_InvalidRuler : Option Addr} {wosl_InvalidRuler wccs_InvalidRuler wcsl_InvalidRuler : Array (Option Value)} {wvs_InvalidRuler : Array Value} {wfile_InvalidRuler : Str} {wtf_InvalidRuler : Tok} {fI_InvalidRack cc_InvalidRack cda_InvalidRack : Addr} {woc_InvalidRack wccl_InvalidRack wcl_InvalidRack wdoc_InvalidRack wpm_InvalidRack wct_InvalidRack : Value} {wod_InvalidRack wcdd_InvalidRack wcld_InvalidRack wan_InvalidRack : Option Addr} {wosl_InvalidRack wccs_InvalidRack wcsl_InvalidRack : Array (Option Value)} {wvs_InvalidRack : Array Value} {wfile_InvalidRack : Str} {wtf_InvalidRack : Tok} {fI_DecodeError cc_DecodeError cda_DecodeError : Addr} {woc_DecodeError wccl_DecodeError wcl_DecodeError wdoc_DecodeError wpm_DecodeError wct_DecodeError : Value} {wod_DecodeError wcdd_DecodeError wcld_DecodeError wan_DecodeError : Option Addr} {wosl_DecodeError wccs_DecodeError wcsl_DecodeError : Array (Option Value)} {wvs_DecodeError : Array Value} {wfile_DecodeError : Str} {wtf_DecodeError : Tok} {f_law_mix : Addr} {oc1 kV1 dc1 pm1 cd1 ct1 : Value} {od1 an1 : Option Addr} {sl1 : Array (Option Value)} {f_law_code : Addr} {oc2 kV2 dc2 pm2 cd2 ct2 : Value} {od2 an2 : Option Addr} {sl2 : Array (Option Value)} {f_law_next : Addr} {oc3 kV3 dc3 pm3 cd3 ct3 : Value} {od3 an3 : Option Addr} {sl3 : Array (Option Value)} {f_law_marks : Addr} {oc4 kV4 dc4 pm4 cd4 ct4 : Value} {od4 an4 : Option Addr} {sl4 : Array (Option Value)} {f_checksum : Addr} {oc5 kV5 dc5 pm5 cd5 ct5 : Value} {od5 an5 : Option Addr} {sl5 : Array (Option Value)} {f_is_name : Addr} {oc6 kV6 dc6 pm6 cd6 ct6 : Value} {od6 an6 : Option Addr} {sl6 : Array (Option Value)} {f_Rack_init : Addr} {oc7 kV7 dc7 pm7 cd7 ct7 : Value} {od7 an7 : Option Addr} {sl7 : Array (Option Value)} {f_is_number : Addr} {oc8 kV8 dc8 pm8 cd8 ct8 : Value} {od8 an8 : Option Addr} {sl8 : Array (Option Value)} {f_Ruler_init : Addr} {oc9 kV9 dc9 pm9 cd9 ct9 : Value} {od9 an9 : Option Addr} {sl9 : Array (Option Value)} {f_rack_of : Addr} {oc10 kV10 dc10 pm10 cd10 ct10 : Value} {od10 an10 : Option Addr} {sl10 : Array (Option Value)} {f_Reader_take : Addr} {oc11 kV11 dc11 pm11 cd11 ct11 : Value} {od11 an11 : Option Addr} {sl11 : Array (Option Value)} {f_Reader_take_marks : Addr} {oc12 kV12 dc12 pm12 cd12 ct12 : Value} {od12 an12 : Option Addr} {sl12 : Array (Option Value)} {f_Reader_take_name : Addr} {oc13 kV13 dc13 pm13 cd13 ct13 : Value} {od13 an13 : Option Addr} {sl13 : Array (Option Value)} {f_Reader_init : Addr} {oc14 kV14 dc14 pm14 cd14 ct14 : Value} {od14 an14 : Option Addr} {sl14 : Array (Option Value)} {f_decode_rack : Addr} {oc15 kV15 dc15 pm15 cd15 ct15 : Value} {od15 an15 : Option Addr} {sl15 : Array (Option Value)} {f_law_seen : Addr} {oc16 kV16 dc16 pm16 cd16 ct16 : Value} {od16 an16 : Option Addr} {sl16 : Array (Option Value)} {f_law_sum : Addr} {oc17 kV17 dc17 pm17 cd17 ct17 : Value} {od17 an17 : Option Addr} {sl17 : Array (Option Value)} {f_Ruler_error : Addr} {p_Ruler_error : Addr} {r_Ruler_error : List Value} {oc18 kV18 dc18 pm18 cd18 ct18 : Value} {od18 an18 : Option Addr} {sl18 : Array (Option Value)} {f_Ruler_marks : Addr} {p_Ruler_marks : Addr} {r_Ruler_marks : List Value} {oc19 kV19 dc19 pm19 cd19 ct19 : Value} {od19 an19 : Option Addr} {sl19 : Array (Option Value)} {f_Ruler_len : Addr} {oc20 kV20 dc20 pm20 cd20 ct20 : Value} {od20 an20 : Option Addr} {sl20 : Array (Option Value)} {f_ruler_codes : Addr} {oc21 kV21 dc21 pm21 cd21 ct21 : Value} {od21 an21 : Option Addr} {sl21 : Array (Option Value)} {f_Rack_names : Addr} {p_Rack_names : Addr} {r_Rack_names : List Value} {oc22 kV22 dc22 pm22 cd22 ct22 : Value} {od22 an22 : Option Addr} {sl22 : Array (Option Value)} {f_Rack_getitem : Addr} {oc23 kV23 dc23 pm23 cd23 ct23 : Value} {od23 an23 : Option Addr} {sl23 : Array (Option Value)} {f_Rack_len : Addr} {oc24 kV24 dc24 pm24 cd24 ct24 : Value} {od24 an24 : Option Addr} {sl24 : Array (Option Value)} {f_encode_rack : Addr} {oc25 kV25 dc25 pm25 cd25 ct25 : Value} {od25 an25 : Option Addr} {sl25 : Array (Option Value)} {f_Ruler_eq : Addr} {oc26 kV26 dc26 pm26 cd26 ct26 : Value} {od26 an26 : Option Addr} {sl26 : Array (Option Value)} {f_Rack_eq : Addr} {oc27 kV27 dc27 pm27 cd27 ct27 : Value} {od27 an27 : Option Addr} {sl27 : Array (Option Value)} {f_law : Addr} {oc28 kV28 dc28 pm28 cd28 ct28 : Value} {od28 an28 : Option Addr} {sl28 : Array (Option Value)}
    (z_int : PySem.W.nsIn K mainGlobals "int" = some none)
    (z_len : PySem.W.nsIn K mainGlobals "len" = some none)
    (z_list : PySem.W.nsIn K mainGlobals "list" = some none)
    (z_range : PySem.W.nsIn K mainGlobals "range" = some none)
    (z_sorted : PySem.W.nsIn K mainGlobals "sorted" = some none)
    (z_tuple : PySem.W.nsIn K mainGlobals "tuple" = some none)
    (z_dict : PySem.W.nsIn K mainGlobals "dict" = some none)
    (z_isinstance : PySem.W.nsIn K mainGlobals "isinstance" = some none)
    (z_bool : PySem.W.nsIn K mainGlobals "bool" = some none)
    (z_str : PySem.W.nsIn K mainGlobals "str" = some none)
    (z_enumerate : PySem.W.nsIn K mainGlobals "enumerate" = some none)
    (z_reversed : PySem.W.nsIn K mainGlobals "reversed" = some none)
    (z_abs : PySem.W.nsIn K mainGlobals "abs" = some none)
    (z_min : PySem.W.nsIn K mainGlobals "min" = some none)
    (z_max : PySem.W.nsIn K mainGlobals "max" = some none)
    (z_sum : PySem.W.nsIn K mainGlobals "sum" = some none)
    (z_zip : PySem.W.nsIn K mainGlobals "zip" = some none)
    (z_set : PySem.W.nsIn K mainGlobals "set" = some none)
    (z_all : PySem.W.nsIn K mainGlobals "all" = some none)
    (z_divmod : PySem.W.nsIn K mainGlobals "divmod" = some none)
    (g_CHECK : PySem.W.nsIn K mainGlobals "CHECK" = some (some (.int 233 t_CHECK)))
    (g_LETTERS : PySem.W.nsIn K mainGlobals "LETTERS" = some (some (.str "abcdefghijklmnopqrstuvwxyz" t_LETTERS)))
    (g_MAX_LETTERS : PySem.W.nsIn K mainGlobals "MAX_LETTERS" = some (some (.int 8 t_MAX_LETTERS)))
    (g_MAX_RULERS : PySem.W.nsIn K mainGlobals "MAX_RULERS" = some (some (.int 6 t_MAX_RULERS)))
    (g_MAX_ERROR : PySem.W.nsIn K mainGlobals "MAX_ERROR" = some (some (.int 9 t_MAX_ERROR)))
    (g_MAX_LENGTH : PySem.W.nsIn K mainGlobals "MAX_LENGTH" = some (some (.int 300 t_MAX_LENGTH)))
    (g_MAX_MARKS : PySem.W.nsIn K mainGlobals "MAX_MARKS" = some (some (.int 12 t_MAX_MARKS)))
    (g_MIN_MARKS : PySem.W.nsIn K mainGlobals "MIN_MARKS" = some (some (.int 2 t_MIN_MARKS)))
    (g_FIRST : PySem.W.nsIn K mainGlobals "FIRST" = some (some (.int 82 t_FIRST)))
    (g_BASE : PySem.W.nsIn K mainGlobals "BASE" = some (some (.int 256 t_BASE)))
    (g_Ruler : PySem.W.nsIn K mainGlobals "Ruler" = some (some (.ref C_Ruler)))
    (pg_Ruler : PySem.W.plainGet K C_Ruler Str.empty = true)
    (ic_Ruler : PySem.W.isClsIn K C_Ruler = true)
    (po_Ruler : PySem.W.plainOver K C_Ruler = true)
    (sa_Ruler : PySem.W.findIn K (.ref C_Ruler) "__setattr__" = some (some (.builtin "object.__setattr__")))
    (ca_Ruler : PySem.W.findIn K (.ref C_Ruler) "__class__" = some (some (.builtin "object.__class__")))
    (cn_Ruler : PySem.W.specialIn K (.builtin "object.__class__") "__get__" = some (some (.builtin "getset_descriptor.__get__")))
    (ct_Ruler : PySem.W.takesIn K (.builtin "object.__class__") = some true)
    (cm_Ruler : PySem.W.mroIn K C_Ruler (.type "object") = some true)
    (sa_Ruler_own_error : PySem.W.findIn K (.ref C_Ruler) "own_error" = some (some (.ref q_Ruler_own_error)))
    (sg_Ruler_own_error : PySem.W.specialIn K (.ref q_Ruler_own_error) "__get__" = some (some (.builtin "member_descriptor.__get__")))
    (sk_Ruler_own_error : PySem.W.takesIn K (.ref q_Ruler_own_error) = some true)
    (sy_Ruler_own_error : PySem.W.typeIn K (.ref q_Ruler_own_error) = some (.type "member_descriptor"))
    (sx_Ruler_own_error : PySem.W.slotIn K q_Ruler_own_error C_Ruler = some 0)
    (sa_Ruler_own_marks : PySem.W.findIn K (.ref C_Ruler) "own_marks" = some (some (.ref q_Ruler_own_marks)))
    (sg_Ruler_own_marks : PySem.W.specialIn K (.ref q_Ruler_own_marks) "__get__" = some (some (.builtin "member_descriptor.__get__")))
    (sk_Ruler_own_marks : PySem.W.takesIn K (.ref q_Ruler_own_marks) = some true)
    (sy_Ruler_own_marks : PySem.W.typeIn K (.ref q_Ruler_own_marks) = some (.type "member_descriptor"))
    (sx_Ruler_own_marks : PySem.W.slotIn K q_Ruler_own_marks C_Ruler = some 1)
    (nf_Ruler : PySem.W.notFirst K C_Ruler (.ref C_Ruler) = true)
    (g_Rack : PySem.W.nsIn K mainGlobals "Rack" = some (some (.ref C_Rack)))
    (pg_Rack : PySem.W.plainGet K C_Rack Str.empty = true)
    (ic_Rack : PySem.W.isClsIn K C_Rack = true)
    (po_Rack : PySem.W.plainOver K C_Rack = true)
    (sa_Rack : PySem.W.findIn K (.ref C_Rack) "__setattr__" = some (some (.builtin "object.__setattr__")))
    (ca_Rack : PySem.W.findIn K (.ref C_Rack) "__class__" = some (some (.builtin "object.__class__")))
    (cn_Rack : PySem.W.specialIn K (.builtin "object.__class__") "__get__" = some (some (.builtin "getset_descriptor.__get__")))
    (ct_Rack : PySem.W.takesIn K (.builtin "object.__class__") = some true)
    (cm_Rack : PySem.W.mroIn K C_Rack (.type "object") = some true)
    (sa_Rack_held : PySem.W.findIn K (.ref C_Rack) "held" = some (some (.ref q_Rack_held)))
    (sg_Rack_held : PySem.W.specialIn K (.ref q_Rack_held) "__get__" = some (some (.builtin "member_descriptor.__get__")))
    (sk_Rack_held : PySem.W.takesIn K (.ref q_Rack_held) = some true)
    (sy_Rack_held : PySem.W.typeIn K (.ref q_Rack_held) = some (.type "member_descriptor"))
    (sx_Rack_held : PySem.W.slotIn K q_Rack_held C_Rack = some 0)
    (nf_Rack : PySem.W.notFirst K C_Rack (.ref C_Rack) = true)
    (g_Reader : PySem.W.nsIn K mainGlobals "Reader" = some (some (.ref C_Reader)))
    (pg_Reader : PySem.W.plainGet K C_Reader Str.empty = true)
    (ic_Reader : PySem.W.isClsIn K C_Reader = true)
    (po_Reader : PySem.W.plainOver K C_Reader = true)
    (sa_Reader : PySem.W.findIn K (.ref C_Reader) "__setattr__" = some (some (.builtin "object.__setattr__")))
    (sa_Reader_codes : PySem.W.findIn K (.ref C_Reader) "codes" = some (some (.ref q_Reader_codes)))
    (sg_Reader_codes : PySem.W.specialIn K (.ref q_Reader_codes) "__get__" = some (some (.builtin "member_descriptor.__get__")))
    (sk_Reader_codes : PySem.W.takesIn K (.ref q_Reader_codes) = some true)
    (sy_Reader_codes : PySem.W.typeIn K (.ref q_Reader_codes) = some (.type "member_descriptor"))
    (sx_Reader_codes : PySem.W.slotIn K q_Reader_codes C_Reader = some 0)
    (sa_Reader_offset : PySem.W.findIn K (.ref C_Reader) "offset" = some (some (.ref q_Reader_offset)))
    (sg_Reader_offset : PySem.W.specialIn K (.ref q_Reader_offset) "__get__" = some (some (.builtin "member_descriptor.__get__")))
    (sk_Reader_offset : PySem.W.takesIn K (.ref q_Reader_offset) = some true)
    (sy_Reader_offset : PySem.W.typeIn K (.ref q_Reader_offset) = some (.type "member_descriptor"))
    (sx_Reader_offset : PySem.W.slotIn K q_Reader_offset C_Reader = some 1)
    (g_RackError : PySem.W.nsIn K mainGlobals "RackError" = some (some (.ref Cx_0)))
    (xt_RackError : PySem.W.typeIn K (.ref Cx_0) = some (.type "type"))
    (xi_RackError : PySem.W.isClsIn K Cx_0 = true)
    (xb_RackError : PySem.W.subIn K (.ref Cx_0) (.type "BaseException") = some true)
    (g_InvalidRuler : PySem.W.nsIn K mainGlobals "InvalidRuler" = some (some (.ref Cx_1)))
    (xt_InvalidRuler : PySem.W.typeIn K (.ref Cx_1) = some (.type "type"))
    (xi_InvalidRuler : PySem.W.isClsIn K Cx_1 = true)
    (xb_InvalidRuler : PySem.W.subIn K (.ref Cx_1) (.type "BaseException") = some true)
    (g_InvalidRack : PySem.W.nsIn K mainGlobals "InvalidRack" = some (some (.ref Cx_2)))
    (xt_InvalidRack : PySem.W.typeIn K (.ref Cx_2) = some (.type "type"))
    (xi_InvalidRack : PySem.W.isClsIn K Cx_2 = true)
    (xb_InvalidRack : PySem.W.subIn K (.ref Cx_2) (.type "BaseException") = some true)
    (g_UnknownName : PySem.W.nsIn K mainGlobals "UnknownName" = some (some (.ref Cx_3)))
    (xt_UnknownName : PySem.W.typeIn K (.ref Cx_3) = some (.type "type"))
    (xi_UnknownName : PySem.W.isClsIn K Cx_3 = true)
    (xb_UnknownName : PySem.W.subIn K (.ref Cx_3) (.type "BaseException") = some true)
    (g_DecodeError : PySem.W.nsIn K mainGlobals "DecodeError" = some (some (.ref Cx_21)))
    (xt_DecodeError : PySem.W.typeIn K (.ref Cx_21) = some (.type "type"))
    (xi_DecodeError : PySem.W.isClsIn K Cx_21 = true)
    (xb_DecodeError : PySem.W.subIn K (.ref Cx_21) (.type "BaseException") = some true)
    (xk_InvalidRuler : PySem.W.keepIn K (.ref Cx_1) = true)
    (wq_InvalidRuler : PySem.W.excInitIn K Cx_1 [.type "ValueError", .type "Exception", .type "BaseException", .type "object"] "ValueError.__new__" = true)
    (ws_InvalidRuler : PySem.W.findIn K (.ref Cx_1) "__setattr__" = some (some (.builtin "object.__setattr__")))
    (nf_InvalidRuler_part : PySem.W.findIn K (.ref Cx_1) "part" = some none)
    (nf_InvalidRuler_index : PySem.W.findIn K (.ref Cx_1) "index" = some none)
    (wi_InvalidRuler : PySem.W.findIn K (.ref Cx_1) "__init__" = some (some (.ref fI_InvalidRuler)))
    (wt_InvalidRuler : PySem.W.typeIn K (.ref fI_InvalidRuler) = some (.type "function"))
    (wu_InvalidRuler : PySem.W.ks_superIn K Cx_1 Cx_1 "__init__" = some (some (.builtin "ValueError.__init__")))
    (wm_InvalidRuler : PySem.W.mroIn K Cx_1 (.ref Cx_1) = some true)
    (w_any : PySem.W.nsIn K cStatics "thirdparty.any" = some none)
    (wl_InvalidRuler : K.lookup fI_InvalidRuler = some ⟨woc_InvalidRuler, wod_InvalidRuler, .func (PySem.W.ksFn "__init__" "InvalidRuler.__init__" (defArgs s_InvalidRuler_init) (defBody s_InvalidRuler_init) (defScope s_InvalidRuler_init) .none .none wdoc_InvalidRuler wpm_InvalidRuler wan_InvalidRuler (.ref cda_InvalidRuler) wct_InvalidRuler cc_InvalidRuler), wosl_InvalidRuler⟩)
    (wc_InvalidRuler : PySem.W.codeIn K (.ref cda_InvalidRuler) "InvalidRuler.__init__" = true)
    (wd_InvalidRuler : K.lookup cda_InvalidRuler = some ⟨wccl_InvalidRuler, wcdd_InvalidRuler, .fields wvs_InvalidRuler, wccs_InvalidRuler⟩)
    (we_InvalidRuler : wvs_InvalidRuler[2]? = some (.str wfile_InvalidRuler wtf_InvalidRuler))
    (wf_InvalidRuler : ((l.prog.main.file : Str) == wfile_InvalidRuler) = true)
    (w_top : (l.prog.main.scope.names.lookup ("super" : Str)).isSome = false)
    (wz_InvalidRuler : K.lookup cc_InvalidRuler = some ⟨wcl_InvalidRuler, wcld_InvalidRuler, .cell (some (.ref Cx_1)), wcsl_InvalidRuler⟩)
    (z_super : PySem.W.nsIn K mainGlobals "super" = some none)
    (xg_InvalidRuler : PySem.W.findIn K (.ref Cx_1) "__getattribute__" = some (some (.builtin "BaseException.__getattribute__")))
    (xa_InvalidRuler : PySem.W.findIn K (.ref Cx_1) "__getattr__" = some none)
    (xd_InvalidRuler : PySem.W.hasDictIn K Cx_1 = true)
    (xl_InvalidRuler : PySem.W.findIn K (.ref Cx_1) "__class__" = some (some (.builtin "object.__class__")))
    (xn_InvalidRuler : PySem.W.specialIn K (.builtin "object.__class__") "__get__" = some (some (.builtin "getset_descriptor.__get__")))
    (xo_InvalidRuler : PySem.W.takesIn K (.builtin "object.__class__") = some true)
    (xr_InvalidRuler : PySem.W.mroIn K Cx_1 (.type "object") = some true)
    (xv_InvalidRuler : PySem.W.subIn K (.ref Cx_1) (.type "ValueError") = some true)
    (xe_InvalidRuler : PySem.W.subIn K (.ref Cx_1) (.ref Cx_0) = some true)
    (xd_RackError : PySem.W.hasDictIn K Cx_0 = true)
    (xk_InvalidRack : PySem.W.keepIn K (.ref Cx_2) = true)
    (wq_InvalidRack : PySem.W.excInitIn K Cx_2 [.type "ValueError", .type "Exception", .type "BaseException", .type "object"] "ValueError.__new__" = true)
    (ws_InvalidRack : PySem.W.findIn K (.ref Cx_2) "__setattr__" = some (some (.builtin "object.__setattr__")))
    (nf_InvalidRack_name : PySem.W.findIn K (.ref Cx_2) "name" = some none)
    (wi_InvalidRack : PySem.W.findIn K (.ref Cx_2) "__init__" = some (some (.ref fI_InvalidRack)))
    (wt_InvalidRack : PySem.W.typeIn K (.ref fI_InvalidRack) = some (.type "function"))
    (wu_InvalidRack : PySem.W.ks_superIn K Cx_2 Cx_2 "__init__" = some (some (.builtin "ValueError.__init__")))
    (wm_InvalidRack : PySem.W.mroIn K Cx_2 (.ref Cx_2) = some true)
    (wl_InvalidRack : K.lookup fI_InvalidRack = some ⟨woc_InvalidRack, wod_InvalidRack, .func (PySem.W.ksFn "__init__" "InvalidRack.__init__" (defArgs s_InvalidRack_init) (defBody s_InvalidRack_init) (defScope s_InvalidRack_init) .none .none wdoc_InvalidRack wpm_InvalidRack wan_InvalidRack (.ref cda_InvalidRack) wct_InvalidRack cc_InvalidRack), wosl_InvalidRack⟩)
    (wc_InvalidRack : PySem.W.codeIn K (.ref cda_InvalidRack) "InvalidRack.__init__" = true)
    (wd_InvalidRack : K.lookup cda_InvalidRack = some ⟨wccl_InvalidRack, wcdd_InvalidRack, .fields wvs_InvalidRack, wccs_InvalidRack⟩)
    (we_InvalidRack : wvs_InvalidRack[2]? = some (.str wfile_InvalidRack wtf_InvalidRack))
    (wf_InvalidRack : ((l.prog.main.file : Str) == wfile_InvalidRack) = true)
    (wz_InvalidRack : K.lookup cc_InvalidRack = some ⟨wcl_InvalidRack, wcld_InvalidRack, .cell (some (.ref Cx_2)), wcsl_InvalidRack⟩)
    (xg_InvalidRack : PySem.W.findIn K (.ref Cx_2) "__getattribute__" = some (some (.builtin "BaseException.__getattribute__")))
    (xa_InvalidRack : PySem.W.findIn K (.ref Cx_2) "__getattr__" = some none)
    (xd_InvalidRack : PySem.W.hasDictIn K Cx_2 = true)
    (xl_InvalidRack : PySem.W.findIn K (.ref Cx_2) "__class__" = some (some (.builtin "object.__class__")))
    (xn_InvalidRack : PySem.W.specialIn K (.builtin "object.__class__") "__get__" = some (some (.builtin "getset_descriptor.__get__")))
    (xo_InvalidRack : PySem.W.takesIn K (.builtin "object.__class__") = some true)
    (xr_InvalidRack : PySem.W.mroIn K Cx_2 (.type "object") = some true)
    (xv_InvalidRack : PySem.W.subIn K (.ref Cx_2) (.type "ValueError") = some true)
    (xe_InvalidRack : PySem.W.subIn K (.ref Cx_2) (.ref Cx_0) = some true)
    (xk_UnknownName : PySem.W.keepIn K (.ref Cx_3) = true)
    (xq_UnknownName : PySem.W.excIn K Cx_3 [.type "ValueError", .type "Exception", .type "BaseException", .type "object"] "ValueError.__new__" = true)
    (xg_UnknownName : PySem.W.findIn K (.ref Cx_3) "__getattribute__" = some (some (.builtin "BaseException.__getattribute__")))
    (xa_UnknownName : PySem.W.findIn K (.ref Cx_3) "__getattr__" = some none)
    (xd_UnknownName : PySem.W.hasDictIn K Cx_3 = true)
    (xl_UnknownName : PySem.W.findIn K (.ref Cx_3) "__class__" = some (some (.builtin "object.__class__")))
    (xn_UnknownName : PySem.W.specialIn K (.builtin "object.__class__") "__get__" = some (some (.builtin "getset_descriptor.__get__")))
    (xo_UnknownName : PySem.W.takesIn K (.builtin "object.__class__") = some true)
    (xr_UnknownName : PySem.W.mroIn K Cx_3 (.type "object") = some true)
    (xv_UnknownName : PySem.W.subIn K (.ref Cx_3) (.type "ValueError") = some true)
    (xe_UnknownName : PySem.W.subIn K (.ref Cx_3) (.ref Cx_0) = some true)
    (xk_DecodeError : PySem.W.keepIn K (.ref Cx_21) = true)
    (wq_DecodeError : PySem.W.excInitIn K Cx_21 [.type "ValueError", .type "Exception", .type "BaseException", .type "object"] "ValueError.__new__" = true)
    (ws_DecodeError : PySem.W.findIn K (.ref Cx_21) "__setattr__" = some (some (.builtin "object.__setattr__")))
    (nf_DecodeError_offset : PySem.W.findIn K (.ref Cx_21) "offset" = some none)
    (wi_DecodeError : PySem.W.findIn K (.ref Cx_21) "__init__" = some (some (.ref fI_DecodeError)))
    (wt_DecodeError : PySem.W.typeIn K (.ref fI_DecodeError) = some (.type "function"))
    (wu_DecodeError : PySem.W.ks_superIn K Cx_21 Cx_21 "__init__" = some (some (.builtin "ValueError.__init__")))
    (wm_DecodeError : PySem.W.mroIn K Cx_21 (.ref Cx_21) = some true)
    (wl_DecodeError : K.lookup fI_DecodeError = some ⟨woc_DecodeError, wod_DecodeError, .func (PySem.W.ksFn "__init__" "DecodeError.__init__" (defArgs s_DecodeError_init) (defBody s_DecodeError_init) (defScope s_DecodeError_init) .none .none wdoc_DecodeError wpm_DecodeError wan_DecodeError (.ref cda_DecodeError) wct_DecodeError cc_DecodeError), wosl_DecodeError⟩)
    (wc_DecodeError : PySem.W.codeIn K (.ref cda_DecodeError) "DecodeError.__init__" = true)
    (wd_DecodeError : K.lookup cda_DecodeError = some ⟨wccl_DecodeError, wcdd_DecodeError, .fields wvs_DecodeError, wccs_DecodeError⟩)
    (we_DecodeError : wvs_DecodeError[2]? = some (.str wfile_DecodeError wtf_DecodeError))
    (wf_DecodeError : ((l.prog.main.file : Str) == wfile_DecodeError) = true)
    (wz_DecodeError : K.lookup cc_DecodeError = some ⟨wcl_DecodeError, wcld_DecodeError, .cell (some (.ref Cx_21)), wcsl_DecodeError⟩)
    (xg_DecodeError : PySem.W.findIn K (.ref Cx_21) "__getattribute__" = some (some (.builtin "BaseException.__getattribute__")))
    (xa_DecodeError : PySem.W.findIn K (.ref Cx_21) "__getattr__" = some none)
    (xd_DecodeError : PySem.W.hasDictIn K Cx_21 = true)
    (xl_DecodeError : PySem.W.findIn K (.ref Cx_21) "__class__" = some (some (.builtin "object.__class__")))
    (xn_DecodeError : PySem.W.specialIn K (.builtin "object.__class__") "__get__" = some (some (.builtin "getset_descriptor.__get__")))
    (xo_DecodeError : PySem.W.takesIn K (.builtin "object.__class__") = some true)
    (xr_DecodeError : PySem.W.mroIn K Cx_21 (.type "object") = some true)
    (xv_DecodeError : PySem.W.subIn K (.ref Cx_21) (.type "ValueError") = some true)
    (xe_DecodeError : PySem.W.subIn K (.ref Cx_21) (.ref Cx_0) = some true)
    (xse_DecodeError : PySem.W.subIn K (.ref Cx_21) (.ref Cx_21) = some true)
    (nn_Rack : PySem.W.findIn K (.ref C_Rack) "__ne__" = some (some (.builtin "object.__ne__")))
    (nn_Ruler : PySem.W.findIn K (.ref C_Ruler) "__ne__" = some (some (.builtin "object.__ne__")))
    (si_Rack : PySem.W.subIn K (.ref C_Rack) (.type "int") = some false)
    (zv_divmod : PySem.W.nsIn K mainGlobals "divmod" = some none)
    (a_law_mix : PySem.W.nsIn K mainGlobals "_law_mix" = some (some (.ref f_law_mix)))
    (l_law_mix : K.lookup f_law_mix = some ⟨oc1, od1, .func (PySem.W.fnOf "_law_mix" "_law_mix" (defArgs s_law_mix) (defBody s_law_mix) (defScope s_law_mix) .none kV1 dc1 pm1 an1 cd1 ct1), sl1⟩)
    (c_law_mix : PySem.W.codeIn K cd1 "_law_mix" = true)
    (kp_law_mix : PySem.W.keepIn K (.ref f_law_mix) = true)
    (a_law_code : PySem.W.nsIn K mainGlobals "_law_code" = some (some (.ref f_law_code)))
    (l_law_code : K.lookup f_law_code = some ⟨oc2, od2, .func (PySem.W.fnOf "_law_code" "_law_code" (defArgs s_law_code) (defBody s_law_code) (defScope s_law_code) .none kV2 dc2 pm2 an2 cd2 ct2), sl2⟩)
    (c_law_code : PySem.W.codeIn K cd2 "_law_code" = true)
    (kp_law_code : PySem.W.keepIn K (.ref f_law_code) = true)
    (a_law_next : PySem.W.nsIn K mainGlobals "_law_next" = some (some (.ref f_law_next)))
    (l_law_next : K.lookup f_law_next = some ⟨oc3, od3, .func (PySem.W.fnOf "_law_next" "_law_next" (defArgs s_law_next) (defBody s_law_next) (defScope s_law_next) .none kV3 dc3 pm3 an3 cd3 ct3), sl3⟩)
    (c_law_next : PySem.W.codeIn K cd3 "_law_next" = true)
    (kp_law_next : PySem.W.keepIn K (.ref f_law_next) = true)
    (a_law_marks : PySem.W.nsIn K mainGlobals "_law_marks" = some (some (.ref f_law_marks)))
    (l_law_marks : K.lookup f_law_marks = some ⟨oc4, od4, .func (PySem.W.fnOf "_law_marks" "_law_marks" (defArgs s_law_marks) (defBody s_law_marks) (defScope s_law_marks) .none kV4 dc4 pm4 an4 cd4 ct4), sl4⟩)
    (c_law_marks : PySem.W.codeIn K cd4 "_law_marks" = true)
    (kp_law_marks : PySem.W.keepIn K (.ref f_law_marks) = true)
    (a_checksum : PySem.W.nsIn K mainGlobals "checksum" = some (some (.ref f_checksum)))
    (l_checksum : K.lookup f_checksum = some ⟨oc5, od5, .func (PySem.W.fnOf "checksum" "checksum" (defArgs s_checksum) (defBody s_checksum) (defScope s_checksum) .none kV5 dc5 pm5 an5 cd5 ct5), sl5⟩)
    (c_checksum : PySem.W.codeIn K cd5 "checksum" = true)
    (kp_checksum : PySem.W.keepIn K (.ref f_checksum) = true)
    (a_is_name : PySem.W.nsIn K mainGlobals "is_name" = some (some (.ref f_is_name)))
    (l_is_name : K.lookup f_is_name = some ⟨oc6, od6, .func (PySem.W.fnOf "is_name" "is_name" (defArgs s_is_name) (defBody s_is_name) (defScope s_is_name) .none kV6 dc6 pm6 an6 cd6 ct6), sl6⟩)
    (c_is_name : PySem.W.codeIn K cd6 "is_name" = true)
    (kp_is_name : PySem.W.keepIn K (.ref f_is_name) = true)
    (at_Rack_init : PySem.W.findIn K (.ref C_Rack) "__init__" = some (some (.ref f_Rack_init)))
    (fn_Rack_init : PySem.W.isFn K (.ref f_Rack_init) = true)
    (l_Rack_init : K.lookup f_Rack_init = some ⟨oc7, od7, .func (PySem.W.fnOf "__init__" "Rack.__init__" (defArgs s_Rack_init) (defBody s_Rack_init) (defScope s_Rack_init) .none kV7 dc7 pm7 an7 cd7 ct7), sl7⟩)
    (c_Rack_init : PySem.W.codeIn K cd7 "Rack.__init__" = true)
    (kp_Rack_init : PySem.W.keepIn K (.ref f_Rack_init) = true)
    (mki_Rack : PySem.W.makesIn K C_Rack = true)
    (kc_Rack : PySem.W.keepIn K (.ref C_Rack) = true)
    (a_is_number : PySem.W.nsIn K mainGlobals "is_number" = some (some (.ref f_is_number)))
    (l_is_number : K.lookup f_is_number = some ⟨oc8, od8, .func (PySem.W.fnOf "is_number" "is_number" (defArgs s_is_number) (defBody s_is_number) (defScope s_is_number) .none kV8 dc8 pm8 an8 cd8 ct8), sl8⟩)
    (c_is_number : PySem.W.codeIn K cd8 "is_number" = true)
    (kp_is_number : PySem.W.keepIn K (.ref f_is_number) = true)
    (at_Ruler_init : PySem.W.findIn K (.ref C_Ruler) "__init__" = some (some (.ref f_Ruler_init)))
    (fn_Ruler_init : PySem.W.isFn K (.ref f_Ruler_init) = true)
    (l_Ruler_init : K.lookup f_Ruler_init = some ⟨oc9, od9, .func (PySem.W.fnOf "__init__" "Ruler.__init__" (defArgs s_Ruler_init) (defBody s_Ruler_init) (defScope s_Ruler_init) .none kV9 dc9 pm9 an9 cd9 ct9), sl9⟩)
    (c_Ruler_init : PySem.W.codeIn K cd9 "Ruler.__init__" = true)
    (kp_Ruler_init : PySem.W.keepIn K (.ref f_Ruler_init) = true)
    (mki_Ruler : PySem.W.makesIn K C_Ruler = true)
    (kc_Ruler : PySem.W.keepIn K (.ref C_Ruler) = true)
    (a_rack_of : PySem.W.nsIn K mainGlobals "rack_of" = some (some (.ref f_rack_of)))
    (l_rack_of : K.lookup f_rack_of = some ⟨oc10, od10, .func (PySem.W.fnOf "rack_of" "rack_of" (defArgs s_rack_of) (defBody s_rack_of) (defScope s_rack_of) .none kV10 dc10 pm10 an10 cd10 ct10), sl10⟩)
    (c_rack_of : PySem.W.codeIn K cd10 "rack_of" = true)
    (kp_rack_of : PySem.W.keepIn K (.ref f_rack_of) = true)
    (at_Reader_take : PySem.W.findIn K (.ref C_Reader) "take" = some (some (.ref f_Reader_take)))
    (fn_Reader_take : PySem.W.isFn K (.ref f_Reader_take) = true)
    (l_Reader_take : K.lookup f_Reader_take = some ⟨oc11, od11, .func (PySem.W.fnOf "take" "Reader.take" (defArgs s_Reader_take) (defBody s_Reader_take) (defScope s_Reader_take) .none kV11 dc11 pm11 an11 cd11 ct11), sl11⟩)
    (c_Reader_take : PySem.W.codeIn K cd11 "Reader.take" = true)
    (kp_Reader_take : PySem.W.keepIn K (.ref f_Reader_take) = true)
    (at_Reader_take_marks : PySem.W.findIn K (.ref C_Reader) "take_marks" = some (some (.ref f_Reader_take_marks)))
    (fn_Reader_take_marks : PySem.W.isFn K (.ref f_Reader_take_marks) = true)
    (l_Reader_take_marks : K.lookup f_Reader_take_marks = some ⟨oc12, od12, .func (PySem.W.fnOf "take_marks" "Reader.take_marks" (defArgs s_Reader_take_marks) (defBody s_Reader_take_marks) (defScope s_Reader_take_marks) .none kV12 dc12 pm12 an12 cd12 ct12), sl12⟩)
    (c_Reader_take_marks : PySem.W.codeIn K cd12 "Reader.take_marks" = true)
    (kp_Reader_take_marks : PySem.W.keepIn K (.ref f_Reader_take_marks) = true)
    (at_Reader_take_name : PySem.W.findIn K (.ref C_Reader) "take_name" = some (some (.ref f_Reader_take_name)))
    (fn_Reader_take_name : PySem.W.isFn K (.ref f_Reader_take_name) = true)
    (l_Reader_take_name : K.lookup f_Reader_take_name = some ⟨oc13, od13, .func (PySem.W.fnOf "take_name" "Reader.take_name" (defArgs s_Reader_take_name) (defBody s_Reader_take_name) (defScope s_Reader_take_name) .none kV13 dc13 pm13 an13 cd13 ct13), sl13⟩)
    (c_Reader_take_name : PySem.W.codeIn K cd13 "Reader.take_name" = true)
    (kp_Reader_take_name : PySem.W.keepIn K (.ref f_Reader_take_name) = true)
    (at_Reader_init : PySem.W.findIn K (.ref C_Reader) "__init__" = some (some (.ref f_Reader_init)))
    (fn_Reader_init : PySem.W.isFn K (.ref f_Reader_init) = true)
    (l_Reader_init : K.lookup f_Reader_init = some ⟨oc14, od14, .func (PySem.W.fnOf "__init__" "Reader.__init__" (defArgs s_Reader_init) (defBody s_Reader_init) (defScope s_Reader_init) .none kV14 dc14 pm14 an14 cd14 ct14), sl14⟩)
    (c_Reader_init : PySem.W.codeIn K cd14 "Reader.__init__" = true)
    (kp_Reader_init : PySem.W.keepIn K (.ref f_Reader_init) = true)
    (mki_Reader : PySem.W.makesIn K C_Reader = true)
    (kc_Reader : PySem.W.keepIn K (.ref C_Reader) = true)
    (a_decode_rack : PySem.W.nsIn K mainGlobals "decode_rack" = some (some (.ref f_decode_rack)))
    (l_decode_rack : K.lookup f_decode_rack = some ⟨oc15, od15, .func (PySem.W.fnOf "decode_rack" "decode_rack" (defArgs s_decode_rack) (defBody s_decode_rack) (defScope s_decode_rack) .none kV15 dc15 pm15 an15 cd15 ct15), sl15⟩)
    (c_decode_rack : PySem.W.codeIn K cd15 "decode_rack" = true)
    (kp_decode_rack : PySem.W.keepIn K (.ref f_decode_rack) = true)
    (a_law_seen : PySem.W.nsIn K mainGlobals "_law_seen" = some (some (.ref f_law_seen)))
    (l_law_seen : K.lookup f_law_seen = some ⟨oc16, od16, .func (PySem.W.fnOf "_law_seen" "_law_seen" (defArgs s_law_seen) (defBody s_law_seen) (defScope s_law_seen) .none kV16 dc16 pm16 an16 cd16 ct16), sl16⟩)
    (c_law_seen : PySem.W.codeIn K cd16 "_law_seen" = true)
    (kp_law_seen : PySem.W.keepIn K (.ref f_law_seen) = true)
    (a_law_sum : PySem.W.nsIn K mainGlobals "_law_sum" = some (some (.ref f_law_sum)))
    (l_law_sum : K.lookup f_law_sum = some ⟨oc17, od17, .func (PySem.W.fnOf "_law_sum" "_law_sum" (defArgs s_law_sum) (defBody s_law_sum) (defScope s_law_sum) .none kV17 dc17 pm17 an17 cd17 ct17), sl17⟩)
    (c_law_sum : PySem.W.codeIn K cd17 "_law_sum" = true)
    (kp_law_sum : PySem.W.keepIn K (.ref f_law_sum) = true)
    (at_Ruler_error : PySem.W.findIn K (.ref C_Ruler) "error" = some (some (.ref p_Ruler_error)))
    (sp_Ruler_error : PySem.W.specialIn K (.ref p_Ruler_error) "__get__" = some (some (.builtin "property.__get__")))
    (tk_Ruler_error : PySem.W.takesIn K (.ref p_Ruler_error) = some true)
    (rc_Ruler_error : PySem.W.recIn K p_Ruler_error "property" = some (.ref f_Ruler_error :: r_Ruler_error))
    (l_Ruler_error : K.lookup f_Ruler_error = some ⟨oc18, od18, .func (PySem.W.fnOf "error" "Ruler.error" (defArgs s_Ruler_error) (defBody s_Ruler_error) (defScope s_Ruler_error) .none kV18 dc18 pm18 an18 cd18 ct18), sl18⟩)
    (c_Ruler_error : PySem.W.codeIn K cd18 "Ruler.error" = true)
    (kp_Ruler_error : PySem.W.keepIn K (.ref f_Ruler_error) = true)
    (at_Ruler_marks : PySem.W.findIn K (.ref C_Ruler) "marks" = some (some (.ref p_Ruler_marks)))
    (sp_Ruler_marks : PySem.W.specialIn K (.ref p_Ruler_marks) "__get__" = some (some (.builtin "property.__get__")))
    (tk_Ruler_marks : PySem.W.takesIn K (.ref p_Ruler_marks) = some true)
    (rc_Ruler_marks : PySem.W.recIn K p_Ruler_marks "property" = some (.ref f_Ruler_marks :: r_Ruler_marks))
    (l_Ruler_marks : K.lookup f_Ruler_marks = some ⟨oc19, od19, .func (PySem.W.fnOf "marks" "Ruler.marks" (defArgs s_Ruler_marks) (defBody s_Ruler_marks) (defScope s_Ruler_marks) .none kV19 dc19 pm19 an19 cd19 ct19), sl19⟩)
    (c_Ruler_marks : PySem.W.codeIn K cd19 "Ruler.marks" = true)
    (kp_Ruler_marks : PySem.W.keepIn K (.ref f_Ruler_marks) = true)
    (at_Ruler_len : PySem.W.findIn K (.ref C_Ruler) "__len__" = some (some (.ref f_Ruler_len)))
    (fn_Ruler_len : PySem.W.isFn K (.ref f_Ruler_len) = true)
    (l_Ruler_len : K.lookup f_Ruler_len = some ⟨oc20, od20, .func (PySem.W.fnOf "__len__" "Ruler.__len__" (defArgs s_Ruler_len) (defBody s_Ruler_len) (defScope s_Ruler_len) .none kV20 dc20 pm20 an20 cd20 ct20), sl20⟩)
    (c_Ruler_len : PySem.W.codeIn K cd20 "Ruler.__len__" = true)
    (kp_Ruler_len : PySem.W.keepIn K (.ref f_Ruler_len) = true)
    (a_ruler_codes : PySem.W.nsIn K mainGlobals "ruler_codes" = some (some (.ref f_ruler_codes)))
    (l_ruler_codes : K.lookup f_ruler_codes = some ⟨oc21, od21, .func (PySem.W.fnOf "ruler_codes" "ruler_codes" (defArgs s_ruler_codes) (defBody s_ruler_codes) (defScope s_ruler_codes) .none kV21 dc21 pm21 an21 cd21 ct21), sl21⟩)
    (c_ruler_codes : PySem.W.codeIn K cd21 "ruler_codes" = true)
    (kp_ruler_codes : PySem.W.keepIn K (.ref f_ruler_codes) = true)
    (at_Rack_names : PySem.W.findIn K (.ref C_Rack) "names" = some (some (.ref p_Rack_names)))
    (sp_Rack_names : PySem.W.specialIn K (.ref p_Rack_names) "__get__" = some (some (.builtin "property.__get__")))
    (tk_Rack_names : PySem.W.takesIn K (.ref p_Rack_names) = some true)
    (rc_Rack_names : PySem.W.recIn K p_Rack_names "property" = some (.ref f_Rack_names :: r_Rack_names))
    (l_Rack_names : K.lookup f_Rack_names = some ⟨oc22, od22, .func (PySem.W.fnOf "names" "Rack.names" (defArgs s_Rack_names) (defBody s_Rack_names) (defScope s_Rack_names) .none kV22 dc22 pm22 an22 cd22 ct22), sl22⟩)
    (c_Rack_names : PySem.W.codeIn K cd22 "Rack.names" = true)
    (kp_Rack_names : PySem.W.keepIn K (.ref f_Rack_names) = true)
    (at_Rack_getitem : PySem.W.findIn K (.ref C_Rack) "__getitem__" = some (some (.ref f_Rack_getitem)))
    (fn_Rack_getitem : PySem.W.isFn K (.ref f_Rack_getitem) = true)
    (l_Rack_getitem : K.lookup f_Rack_getitem = some ⟨oc23, od23, .func (PySem.W.fnOf "__getitem__" "Rack.__getitem__" (defArgs s_Rack_getitem) (defBody s_Rack_getitem) (defScope s_Rack_getitem) .none kV23 dc23 pm23 an23 cd23 ct23), sl23⟩)
    (c_Rack_getitem : PySem.W.codeIn K cd23 "Rack.__getitem__" = true)
    (kp_Rack_getitem : PySem.W.keepIn K (.ref f_Rack_getitem) = true)
    (at_Rack_len : PySem.W.findIn K (.ref C_Rack) "__len__" = some (some (.ref f_Rack_len)))
    (fn_Rack_len : PySem.W.isFn K (.ref f_Rack_len) = true)
    (l_Rack_len : K.lookup f_Rack_len = some ⟨oc24, od24, .func (PySem.W.fnOf "__len__" "Rack.__len__" (defArgs s_Rack_len) (defBody s_Rack_len) (defScope s_Rack_len) .none kV24 dc24 pm24 an24 cd24 ct24), sl24⟩)
    (c_Rack_len : PySem.W.codeIn K cd24 "Rack.__len__" = true)
    (kp_Rack_len : PySem.W.keepIn K (.ref f_Rack_len) = true)
    (a_encode_rack : PySem.W.nsIn K mainGlobals "encode_rack" = some (some (.ref f_encode_rack)))
    (l_encode_rack : K.lookup f_encode_rack = some ⟨oc25, od25, .func (PySem.W.fnOf "encode_rack" "encode_rack" (defArgs s_encode_rack) (defBody s_encode_rack) (defScope s_encode_rack) .none kV25 dc25 pm25 an25 cd25 ct25), sl25⟩)
    (c_encode_rack : PySem.W.codeIn K cd25 "encode_rack" = true)
    (kp_encode_rack : PySem.W.keepIn K (.ref f_encode_rack) = true)
    (at_Ruler_eq : PySem.W.findIn K (.ref C_Ruler) "__eq__" = some (some (.ref f_Ruler_eq)))
    (fn_Ruler_eq : PySem.W.isFn K (.ref f_Ruler_eq) = true)
    (l_Ruler_eq : K.lookup f_Ruler_eq = some ⟨oc26, od26, .func (PySem.W.fnOf "__eq__" "Ruler.__eq__" (defArgs s_Ruler_eq) (defBody s_Ruler_eq) (defScope s_Ruler_eq) .none kV26 dc26 pm26 an26 cd26 ct26), sl26⟩)
    (c_Ruler_eq : PySem.W.codeIn K cd26 "Ruler.__eq__" = true)
    (kp_Ruler_eq : PySem.W.keepIn K (.ref f_Ruler_eq) = true)
    (at_Rack_eq : PySem.W.findIn K (.ref C_Rack) "__eq__" = some (some (.ref f_Rack_eq)))
    (fn_Rack_eq : PySem.W.isFn K (.ref f_Rack_eq) = true)
    (l_Rack_eq : K.lookup f_Rack_eq = some ⟨oc27, od27, .func (PySem.W.fnOf "__eq__" "Rack.__eq__" (defArgs s_Rack_eq) (defBody s_Rack_eq) (defScope s_Rack_eq) .none kV27 dc27 pm27 an27 cd27 ct27), sl27⟩)
    (c_Rack_eq : PySem.W.codeIn K cd27 "Rack.__eq__" = true)
    (kp_Rack_eq : PySem.W.keepIn K (.ref f_Rack_eq) = true)
    (a_law : PySem.W.nsIn K mainGlobals "law" = some (some (.ref f_law)))
    (l_law : K.lookup f_law = some ⟨oc28, od28, .func (PySem.W.fnOf "law" "law" (defArgs s_law) (defBody s_law) (defScope s_law) .none kV28 dc28 pm28 an28 cd28 ct28), sl28⟩)
    (c_law : PySem.W.codeIn K cd28 "law" = true)
    (kp_law : PySem.W.keepIn K (.ref f_law) = true) :
    ∃ fd : FuncData, (∀ (s : Shared) (v : Value), BindsTo s fd ⟨[v], []⟩ [("_law_script", v)]) ∧ ∀ base : Heap, K.In base → base.Ns mainGlobals mg → FnOk l.prog w K mg base (L2.CX l.prog w) 14 fa fd ["_law_script"] (spD K (FLaw m_law)) := by
  have efa := hfa.symm.trans (PySem.W.mg_of X G a_law)
  cases efa
  have mg_CHECK := PySem.W.mg_of X G g_CHECK
  have mg_LETTERS := PySem.W.mg_of X G g_LETTERS
  have mg_MAX_LETTERS := PySem.W.mg_of X G g_MAX_LETTERS
  have mg_MAX_RULERS := PySem.W.mg_of X G g_MAX_RULERS
  have mg_MAX_ERROR := PySem.W.mg_of X G g_MAX_ERROR
  have mg_MAX_LENGTH := PySem.W.mg_of X G g_MAX_LENGTH
  have mg_MAX_MARKS := PySem.W.mg_of X G g_MAX_MARKS
  have mg_MIN_MARKS := PySem.W.mg_of X G g_MIN_MARKS
  have mg_FIRST := PySem.W.mg_of X G g_FIRST
  have mg_BASE := PySem.W.mg_of X G g_BASE
  have mg_Ruler := PySem.W.mg_of X G g_Ruler
  have cls_Ruler : SlX.SCls K C_Ruler := ⟨pg_Ruler, ic_Ruler, po_Ruler, sa_Ruler⟩
  have isi_Ruler : SlX.SIsi K C_Ruler := ⟨ca_Ruler, cn_Ruler, ct_Ruler, cm_Ruler⟩
  have slot_Ruler_own_error : SlX.Slot1 K C_Ruler "own_error" q_Ruler_own_error 0 := ⟨sa_Ruler_own_error, sg_Ruler_own_error, sk_Ruler_own_error, sy_Ruler_own_error, sx_Ruler_own_error, by decide⟩
  have slot_Ruler_own_marks : SlX.Slot1 K C_Ruler "own_marks" q_Ruler_own_marks 1 := ⟨sa_Ruler_own_marks, sg_Ruler_own_marks, sk_Ruler_own_marks, sy_Ruler_own_marks, sx_Ruler_own_marks, by decide⟩
  have cl_Ruler : Cl_Ruler K C_Ruler := ⟨cls_Ruler, isi_Ruler, ⟨_, slot_Ruler_own_error⟩, ⟨_, slot_Ruler_own_marks⟩, kit_same (by simp), nf_Ruler⟩
  have mg_Rack := PySem.W.mg_of X G g_Rack
  have cls_Rack : SlX.SCls K C_Rack := ⟨pg_Rack, ic_Rack, po_Rack, sa_Rack⟩
  have isi_Rack : SlX.SIsi K C_Rack := ⟨ca_Rack, cn_Rack, ct_Rack, cm_Rack⟩
  have slot_Rack_held : SlX.Slot1 K C_Rack "held" q_Rack_held 0 := ⟨sa_Rack_held, sg_Rack_held, sk_Rack_held, sy_Rack_held, sx_Rack_held, by decide⟩
  have cl_Rack : Cl_Rack K C_Rack := ⟨cls_Rack, isi_Rack, ⟨_, slot_Rack_held⟩, kit_same (by simp), nf_Rack⟩
  have mg_Reader := PySem.W.mg_of X G g_Reader
  have cls_Reader : SlX.SCls K C_Reader := ⟨pg_Reader, ic_Reader, po_Reader, sa_Reader⟩
  have slot_Reader_codes : SlX.Slot1 K C_Reader "codes" q_Reader_codes 0 := ⟨sa_Reader_codes, sg_Reader_codes, sk_Reader_codes, sy_Reader_codes, sx_Reader_codes, by decide⟩
  have slot_Reader_offset : SlX.Slot1 K C_Reader "offset" q_Reader_offset 1 := ⟨sa_Reader_offset, sg_Reader_offset, sk_Reader_offset, sy_Reader_offset, sx_Reader_offset, by decide⟩
  have cl_Reader : Clo_Reader K C_Reader := ⟨cls_Reader, ⟨_, slot_Reader_codes⟩, ⟨_, slot_Reader_offset⟩⟩
  have mg_RackError := PySem.W.mg_of X G g_RackError
  have xm_RackError : mg "RackError" = some (.ref (xcx [Cx_0, Cx_1, Cx_2, Cx_3, 0, 0, 0, 0, 0, 0, 0, 0, 0, 0, 0, 0, 0, 0, 0, 0, 0, Cx_21] 0)) := mg_RackError
  have mg_InvalidRuler := PySem.W.mg_of X G g_InvalidRuler
  have xm_InvalidRuler : mg "InvalidRuler" = some (.ref (xcx [Cx_0, Cx_1, Cx_2, Cx_3, 0, 0, 0, 0, 0, 0, 0, 0, 0, 0, 0, 0, 0, 0, 0, 0, 0, Cx_21] 1)) := mg_InvalidRuler
  have mg_InvalidRack := PySem.W.mg_of X G g_InvalidRack
  have xm_InvalidRack : mg "InvalidRack" = some (.ref (xcx [Cx_0, Cx_1, Cx_2, Cx_3, 0, 0, 0, 0, 0, 0, 0, 0, 0, 0, 0, 0, 0, 0, 0, 0, 0, Cx_21] 2)) := mg_InvalidRack
  have mg_UnknownName := PySem.W.mg_of X G g_UnknownName
  have xm_UnknownName : mg "UnknownName" = some (.ref (xcx [Cx_0, Cx_1, Cx_2, Cx_3, 0, 0, 0, 0, 0, 0, 0, 0, 0, 0, 0, 0, 0, 0, 0, 0, 0, Cx_21] 3)) := mg_UnknownName
  have mg_DecodeError := PySem.W.mg_of X G g_DecodeError
  have xm_DecodeError : mg "DecodeError" = some (.ref (xcx [Cx_0, Cx_1, Cx_2, Cx_3, 0, 0, 0, 0, 0, 0, 0, 0, 0, 0, 0, 0, 0, 0, 0, 0, 0, Cx_21] 21)) := mg_DecodeError
  have xg_super : mg "super" = none := PySem.W.mg_none_of X G z_super
  have ec_InvalidRuler : ExcC K (xcx [Cx_0, Cx_1, Cx_2, Cx_3, 0, 0, 0, 0, 0, 0, 0, 0, 0, 0, 0, 0, 0, 0, 0, 0, 0, Cx_21] 1) := ⟨xg_InvalidRuler, xa_InvalidRuler, xb_InvalidRuler, xd_InvalidRuler, xl_InvalidRuler, xn_InvalidRuler, xo_InvalidRuler, xr_InvalidRuler⟩
  have xf_InvalidRuler : L2.XfC K (xcx [Cx_0, Cx_1, Cx_2, Cx_3, 0, 0, 0, 0, 0, 0, 0, 0, 0, 0, 0, 0, 0, 0, 0, 0, 0, Cx_21] 1) := ⟨xg_InvalidRuler, xa_InvalidRuler, xb_InvalidRuler, xd_InvalidRuler⟩
  have oe_InvalidRuler : L2.OexC K Cx_1 := oexc_mk wq_InvalidRuler xd_InvalidRuler ws_InvalidRuler xb_InvalidRuler xt_InvalidRuler xk_InvalidRuler
  have xw_InvalidRuler : XK2 l.prog K mg "InvalidRuler" "part" "index" (xcx [Cx_0, Cx_1, Cx_2, Cx_3, 0, 0, 0, 0, 0, 0, 0, 0, 0, 0, 0, 0, 0, 0, 0, 0, 0, Cx_21] 1) := xk2_mk xtx_InvalidRuler oe_InvalidRuler mg_InvalidRuler xg_super nf_InvalidRuler_part nf_InvalidRuler_index wi_InvalidRuler wt_InvalidRuler wu_InvalidRuler wm_InvalidRuler xv_InvalidRuler w_any wl_InvalidRuler wc_InvalidRuler wd_InvalidRuler we_InvalidRuler wf_InvalidRuler w_top wz_InvalidRuler
  have kv_InvalidRuler : PySem.W.kitOne K (.ref (xcx [Cx_0, Cx_1, Cx_2, Cx_3, 0, 0, 0, 0, 0, 0, 0, 0, 0, 0, 0, 0, 0, 0, 0, 0, 0, Cx_21] 1)) (.type "ValueError") = some true := kit_typ xv_InvalidRuler
  have em_InvalidRuler : PySem.W.exmOne K (.ref (xcx [Cx_0, Cx_1, Cx_2, Cx_3, 0, 0, 0, 0, 0, 0, 0, 0, 0, 0, 0, 0, 0, 0, 0, 0, 0, Cx_21] 1)) (.ref (xcx [Cx_0, Cx_1, Cx_2, Cx_3, 0, 0, 0, 0, 0, 0, 0, 0, 0, 0, 0, 0, 0, 0, 0, 0, 0, Cx_21] 0)) = some true := PySem.W.exm_ref xb_RackError xd_RackError xt_RackError xe_InvalidRuler
  have ec_InvalidRack : ExcC K (xcx [Cx_0, Cx_1, Cx_2, Cx_3, 0, 0, 0, 0, 0, 0, 0, 0, 0, 0, 0, 0, 0, 0, 0, 0, 0, Cx_21] 2) := ⟨xg_InvalidRack, xa_InvalidRack, xb_InvalidRack, xd_InvalidRack, xl_InvalidRack, xn_InvalidRack, xo_InvalidRack, xr_InvalidRack⟩
  have xf_InvalidRack : L2.XfC K (xcx [Cx_0, Cx_1, Cx_2, Cx_3, 0, 0, 0, 0, 0, 0, 0, 0, 0, 0, 0, 0, 0, 0, 0, 0, 0, Cx_21] 2) := ⟨xg_InvalidRack, xa_InvalidRack, xb_InvalidRack, xd_InvalidRack⟩
  have oe_InvalidRack : L2.OexC K Cx_2 := oexc_mk wq_InvalidRack xd_InvalidRack ws_InvalidRack xb_InvalidRack xt_InvalidRack xk_InvalidRack
  have xw_InvalidRack : XK1 l.prog K mg "InvalidRack" "name" (xcx [Cx_0, Cx_1, Cx_2, Cx_3, 0, 0, 0, 0, 0, 0, 0, 0, 0, 0, 0, 0, 0, 0, 0, 0, 0, Cx_21] 2) := xk1_mk xtx_InvalidRack oe_InvalidRack mg_InvalidRack xg_super nf_InvalidRack_name wi_InvalidRack wt_InvalidRack wu_InvalidRack wm_InvalidRack xv_InvalidRack w_any wl_InvalidRack wc_InvalidRack wd_InvalidRack we_InvalidRack wf_InvalidRack w_top wz_InvalidRack
  have kv_InvalidRack : PySem.W.kitOne K (.ref (xcx [Cx_0, Cx_1, Cx_2, Cx_3, 0, 0, 0, 0, 0, 0, 0, 0, 0, 0, 0, 0, 0, 0, 0, 0, 0, Cx_21] 2)) (.type "ValueError") = some true := kit_typ xv_InvalidRack
  have em_InvalidRack : PySem.W.exmOne K (.ref (xcx [Cx_0, Cx_1, Cx_2, Cx_3, 0, 0, 0, 0, 0, 0, 0, 0, 0, 0, 0, 0, 0, 0, 0, 0, 0, Cx_21] 2)) (.ref (xcx [Cx_0, Cx_1, Cx_2, Cx_3, 0, 0, 0, 0, 0, 0, 0, 0, 0, 0, 0, 0, 0, 0, 0, 0, 0, Cx_21] 0)) = some true := PySem.W.exm_ref xb_RackError xd_RackError xt_RackError xe_InvalidRack
  have xc_UnknownName : XC K mg "UnknownName" (xcx [Cx_0, Cx_1, Cx_2, Cx_3, 0, 0, 0, 0, 0, 0, 0, 0, 0, 0, 0, 0, 0, 0, 0, 0, 0, Cx_21] 3) := ⟨xq_UnknownName, mg_UnknownName, xk_UnknownName, xb_UnknownName, xt_UnknownName⟩
  have ec_UnknownName : ExcC K (xcx [Cx_0, Cx_1, Cx_2, Cx_3, 0, 0, 0, 0, 0, 0, 0, 0, 0, 0, 0, 0, 0, 0, 0, 0, 0, Cx_21] 3) := ⟨xg_UnknownName, xa_UnknownName, xb_UnknownName, xd_UnknownName, xl_UnknownName, xn_UnknownName, xo_UnknownName, xr_UnknownName⟩
  have kv_UnknownName : PySem.W.kitOne K (.ref (xcx [Cx_0, Cx_1, Cx_2, Cx_3, 0, 0, 0, 0, 0, 0, 0, 0, 0, 0, 0, 0, 0, 0, 0, 0, 0, Cx_21] 3)) (.type "ValueError") = some true := kit_typ xv_UnknownName
  have em_UnknownName : PySem.W.exmOne K (.ref (xcx [Cx_0, Cx_1, Cx_2, Cx_3, 0, 0, 0, 0, 0, 0, 0, 0, 0, 0, 0, 0, 0, 0, 0, 0, 0, Cx_21] 3)) (.ref (xcx [Cx_0, Cx_1, Cx_2, Cx_3, 0, 0, 0, 0, 0, 0, 0, 0, 0, 0, 0, 0, 0, 0, 0, 0, 0, Cx_21] 0)) = some true := PySem.W.exm_ref xb_RackError xd_RackError xt_RackError xe_UnknownName
  have ec_DecodeError : ExcC K (xcx [Cx_0, Cx_1, Cx_2, Cx_3, 0, 0, 0, 0, 0, 0, 0, 0, 0, 0, 0, 0, 0, 0, 0, 0, 0, Cx_21] 21) := ⟨xg_DecodeError, xa_DecodeError, xb_DecodeError, xd_DecodeError, xl_DecodeError, xn_DecodeError, xo_DecodeError, xr_DecodeError⟩
  have xf_DecodeError : L2.XfC K (xcx [Cx_0, Cx_1, Cx_2, Cx_3, 0, 0, 0, 0, 0, 0, 0, 0, 0, 0, 0, 0, 0, 0, 0, 0, 0, Cx_21] 21) := ⟨xg_DecodeError, xa_DecodeError, xb_DecodeError, xd_DecodeError⟩
  have oe_DecodeError : L2.OexC K Cx_21 := oexc_mk wq_DecodeError xd_DecodeError ws_DecodeError xb_DecodeError xt_DecodeError xk_DecodeError
  have xw_DecodeError : XK1 l.prog K mg "DecodeError" "offset" (xcx [Cx_0, Cx_1, Cx_2, Cx_3, 0, 0, 0, 0, 0, 0, 0, 0, 0, 0, 0, 0, 0, 0, 0, 0, 0, Cx_21] 21) := xk1_mk xtx_DecodeError oe_DecodeError mg_DecodeError xg_super nf_DecodeError_offset wi_DecodeError wt_DecodeError wu_DecodeError wm_DecodeError xv_DecodeError w_any wl_DecodeError wc_DecodeError wd_DecodeError we_DecodeError wf_DecodeError w_top wz_DecodeError
  have kv_DecodeError : PySem.W.kitOne K (.ref (xcx [Cx_0, Cx_1, Cx_2, Cx_3, 0, 0, 0, 0, 0, 0, 0, 0, 0, 0, 0, 0, 0, 0, 0, 0, 0, Cx_21] 21)) (.type "ValueError") = some true := kit_typ xv_DecodeError
  have em_DecodeError : PySem.W.exmOne K (.ref (xcx [Cx_0, Cx_1, Cx_2, Cx_3, 0, 0, 0, 0, 0, 0, 0, 0, 0, 0, 0, 0, 0, 0, 0, 0, 0, Cx_21] 21)) (.ref (xcx [Cx_0, Cx_1, Cx_2, Cx_3, 0, 0, 0, 0, 0, 0, 0, 0, 0, 0, 0, 0, 0, 0, 0, 0, 0, Cx_21] 0)) = some true := PySem.W.exm_ref xb_RackError xd_RackError xt_RackError xe_DecodeError
  have emm_DecodeError : PySem.W.exmOne K (.ref (xcx [Cx_0, Cx_1, Cx_2, Cx_3, 0, 0, 0, 0, 0, 0, 0, 0, 0, 0, 0, 0, 0, 0, 0, 0, 0, Cx_21] 21)) (.ref (xcx [Cx_0, Cx_1, Cx_2, Cx_3, 0, 0, 0, 0, 0, 0, 0, 0, 0, 0, 0, 0, 0, 0, 0, 0, 0, Cx_21] 21)) = some true := PySem.W.exm_ref xb_DecodeError xd_DecodeError xt_DecodeError xse_DecodeError
  have ne_Rack : NeOf K C_Rack := ⟨po_Rack, nn_Rack, nf_Rack⟩
  have ne_Ruler : NeOf K C_Ruler := ⟨po_Ruler, nn_Ruler, nf_Ruler⟩
  have ki_Rack := kit_int si_Rack
  have xg_divmod : mg "divmod" = none := PySem.W.mg_none_of X G zv_divmod
  have B : Bn mg := ⟨PySem.W.mg_none_of X G z_int, PySem.W.mg_none_of X G z_len, PySem.W.mg_none_of X G z_list, PySem.W.mg_none_of X G z_range, PySem.W.mg_none_of X G z_sorted, PySem.W.mg_none_of X G z_tuple, PySem.W.mg_none_of X G z_dict, PySem.W.mg_none_of X G z_isinstance, PySem.W.mg_none_of X G z_bool, PySem.W.mg_none_of X G z_str, PySem.W.mg_none_of X G z_enumerate, PySem.W.mg_none_of X G z_reversed, PySem.W.mg_none_of X G z_abs, PySem.W.mg_none_of X G z_min, PySem.W.mg_none_of X G z_max, PySem.W.mg_none_of X G z_sum, PySem.W.mg_none_of X G z_zip, PySem.W.mg_none_of X G z_set, PySem.W.mg_none_of X G z_all, PySem.W.mg_none_of X G z_divmod⟩
  have F_law_mix := fun_mk (st := s_law_mix) l_law_mix c_law_mix kp_law_mix
  have b_law_mix := F_law_mix.binds (ps := ["_law_script", "_law_seed"]) fun _ _ _ _ _ _ us hl => match us, hl with | [_, _], _ => rfl
  have mg_law_mix := PySem.W.mg_of X G a_law_mix
  have F_law_code := fun_mk (st := s_law_code) l_law_code c_law_code kp_law_code
  have b_law_code := F_law_code.binds (ps := ["_law_drawn"]) fun _ _ _ _ _ _ us hl => match us, hl with | [_], _ => rfl
  have mg_law_code := PySem.W.mg_of X G a_law_code
  have F_law_next := fun_mk (st := s_law_next) l_law_next c_law_next kp_law_next
  have b_law_next := F_law_next.binds (ps := ["_law_h", "_law_limit"]) fun _ _ _ _ _ _ us hl => match us, hl with | [_, _], _ => rfl
  have mg_law_next := PySem.W.mg_of X G a_law_next
  have F_law_marks := fun_mk (st := s_law_marks) l_law_marks c_law_marks kp_law_marks
  have b_law_marks := F_law_marks.binds (ps := ["_law_h", "_law_most", "_law_wide"]) fun _ _ _ _ _ _ us hl => match us, hl with | [_, _, _], _ => rfl
  have mg_law_marks := PySem.W.mg_of X G a_law_marks
  have F_checksum := fun_mk (st := s_checksum) l_checksum c_checksum kp_checksum
  have b_checksum := F_checksum.binds (ps := ["values"]) fun _ _ _ _ _ _ us hl => match us, hl with | [_], _ => rfl
  have mg_checksum := PySem.W.mg_of X G a_checksum
  have F_is_name := fun_mk (st := s_is_name) l_is_name c_is_name kp_is_name
  have b_is_name := F_is_name.binds (ps := ["name"]) fun _ _ _ _ _ _ us hl => match us, hl with | [_], _ => rfl
  have mg_is_name := PySem.W.mg_of X G a_is_name
  have F_Rack_init := fun_mk (st := s_Rack_init) l_Rack_init c_Rack_init kp_Rack_init
  have b_Rack_init := F_Rack_init.binds (ps := ["self", "rulers"]) fun _ _ _ _ _ _ us hl => match us, hl with | [_, _], _ => rfl
  have F_is_number := fun_mk (st := s_is_number) l_is_number c_is_number kp_is_number
  have b_is_number := F_is_number.binds (ps := ["value", "lowest", "highest"]) fun _ _ _ _ _ _ us hl => match us, hl with | [_, _, _], _ => rfl
  have mg_is_number := PySem.W.mg_of X G a_is_number
  have F_Ruler_init := fun_mk (st := s_Ruler_init) l_Ruler_init c_Ruler_init kp_Ruler_init
  have b_Ruler_init := F_Ruler_init.binds (ps := ["self", "marks", "error"]) fun _ _ _ _ _ _ us hl => match us, hl with | [_, _, _], _ => rfl
  have F_rack_of := fun_mk (st := s_rack_of) l_rack_of c_rack_of kp_rack_of
  have b_rack_of := F_rack_of.binds (ps := ["rows"]) fun _ _ _ _ _ _ us hl => match us, hl with | [_], _ => rfl
  have mg_rack_of := PySem.W.mg_of X G a_rack_of
  have F_Reader_take := fun_mk (st := s_Reader_take) l_Reader_take c_Reader_take kp_Reader_take
  have b_Reader_take := F_Reader_take.binds (ps := ["self", "smallest", "largest"]) fun _ _ _ _ _ _ us hl => match us, hl with | [_, _, _], _ => rfl
  have F_Reader_take_marks := fun_mk (st := s_Reader_take_marks) l_Reader_take_marks c_Reader_take_marks kp_Reader_take_marks
  have b_Reader_take_marks := F_Reader_take_marks.binds (ps := ["self"]) fun _ _ _ _ _ _ us hl => match us, hl with | [_], _ => rfl
  have F_Reader_take_name := fun_mk (st := s_Reader_take_name) l_Reader_take_name c_Reader_take_name kp_Reader_take_name
  have b_Reader_take_name := F_Reader_take_name.binds (ps := ["self", "last"]) fun _ _ _ _ _ _ us hl => match us, hl with | [_, _], _ => rfl
  have F_Reader_init := fun_mk (st := s_Reader_init) l_Reader_init c_Reader_init kp_Reader_init
  have b_Reader_init := F_Reader_init.binds (ps := ["self", "values"]) fun _ _ _ _ _ _ us hl => match us, hl with | [_, _], _ => rfl
  have F_decode_rack := fun_mk (st := s_decode_rack) l_decode_rack c_decode_rack kp_decode_rack
  have b_decode_rack := F_decode_rack.binds (ps := ["values"]) fun _ _ _ _ _ _ us hl => match us, hl with | [_], _ => rfl
  have mg_decode_rack := PySem.W.mg_of X G a_decode_rack
  have F_law_seen := fun_mk (st := s_law_seen) l_law_seen c_law_seen kp_law_seen
  have b_law_seen := F_law_seen.binds (ps := ["_law_values"]) fun _ _ _ _ _ _ us hl => match us, hl with | [_], _ => rfl
  have mg_law_seen := PySem.W.mg_of X G a_law_seen
  have F_law_sum := fun_mk (st := s_law_sum) l_law_sum c_law_sum kp_law_sum
  have b_law_sum := F_law_sum.binds (ps := ["_law_values"]) fun _ _ _ _ _ _ us hl => match us, hl with | [_], _ => rfl
  have mg_law_sum := PySem.W.mg_of X G a_law_sum
  have F_Ruler_error := fun_mk (st := s_Ruler_error) l_Ruler_error c_Ruler_error kp_Ruler_error
  have b_Ruler_error := F_Ruler_error.binds (ps := ["self"]) fun _ _ _ _ _ _ us hl => match us, hl with | [_], _ => rfl
  have F_Ruler_marks := fun_mk (st := s_Ruler_marks) l_Ruler_marks c_Ruler_marks kp_Ruler_marks
  have b_Ruler_marks := F_Ruler_marks.binds (ps := ["self"]) fun _ _ _ _ _ _ us hl => match us, hl with | [_], _ => rfl
  have F_Ruler_len := fun_mk (st := s_Ruler_len) l_Ruler_len c_Ruler_len kp_Ruler_len
  have b_Ruler_len := F_Ruler_len.binds (ps := ["self"]) fun _ _ _ _ _ _ us hl => match us, hl with | [_], _ => rfl
  have F_ruler_codes := fun_mk (st := s_ruler_codes) l_ruler_codes c_ruler_codes kp_ruler_codes
  have b_ruler_codes := F_ruler_codes.binds (ps := ["name", "ruler"]) fun _ _ _ _ _ _ us hl => match us, hl with | [_, _], _ => rfl
  have mg_ruler_codes := PySem.W.mg_of X G a_ruler_codes
  have F_Rack_names := fun_mk (st := s_Rack_names) l_Rack_names c_Rack_names kp_Rack_names
  have b_Rack_names := F_Rack_names.binds (ps := ["self"]) fun _ _ _ _ _ _ us hl => match us, hl with | [_], _ => rfl
  have F_Rack_getitem := fun_mk (st := s_Rack_getitem) l_Rack_getitem c_Rack_getitem kp_Rack_getitem
  have b_Rack_getitem := F_Rack_getitem.binds (ps := ["self", "name"]) fun _ _ _ _ _ _ us hl => match us, hl with | [_, _], _ => rfl
  have F_Rack_len := fun_mk (st := s_Rack_len) l_Rack_len c_Rack_len kp_Rack_len
  have b_Rack_len := F_Rack_len.binds (ps := ["self"]) fun _ _ _ _ _ _ us hl => match us, hl with | [_], _ => rfl
  have F_encode_rack := fun_mk (st := s_encode_rack) l_encode_rack c_encode_rack kp_encode_rack
  have b_encode_rack := F_encode_rack.binds (ps := ["rack"]) fun _ _ _ _ _ _ us hl => match us, hl with | [_], _ => rfl
  have mg_encode_rack := PySem.W.mg_of X G a_encode_rack
  have F_Ruler_eq := fun_mk (st := s_Ruler_eq) l_Ruler_eq c_Ruler_eq kp_Ruler_eq
  have b_Ruler_eq := F_Ruler_eq.binds (ps := ["self", "other"]) fun _ _ _ _ _ _ us hl => match us, hl with | [_, _], _ => rfl
  have F_Rack_eq := fun_mk (st := s_Rack_eq) l_Rack_eq c_Rack_eq kp_Rack_eq
  have b_Rack_eq := F_Rack_eq.binds (ps := ["self", "other"]) fun _ _ _ _ _ _ us hl => match us, hl with | [_, _], _ => rfl
  have F_law := fun_mk (st := s_law) l_law c_law kp_law
  have b_law := F_law.binds (ps := ["_law_script"]) fun _ _ _ _ _ _ us hl => match us, hl with | [_], _ => rfl
  refine ⟨PySem.W.fnOf "law" "law" (defArgs s_law) (defBody s_law) (defScope s_law) .none kV28 dc28 pm28 an28 cd28 ct28, fun s v => .of_eq rfl, fun base _ _ => ?_⟩
  have c_law_mix : Cal l.prog w K mg base "_law_mix" 3 ["_law_script", "_law_seed"] (FMix m_law_mix) := ⟨f_law_mix, _, ok_law_mix F_law_mix B, mg_law_mix, kp_law_mix, b_law_mix⟩
  have c_law_code : Cal l.prog w K mg base "_law_code" 3 ["_law_drawn"] (FM (xcx [Cx_0, Cx_1, Cx_2, Cx_3, 0, 0, 0, 0, 0, 0, 0, 0, 0, 0, 0, 0, 0, 0, 0, 0, 0, Cx_21]) (A := List (S × (List Int × Int))) (R := List Int) (fun a => [(eD kZ (eP (eT eI) eI)) a]) (fun v => .fr ((eL eI) v)) (fun a => m_law_code a)) := ⟨f_law_code, _, ok_law_code F_law_code B, mg_law_code, kp_law_code, b_law_code⟩
  have c_law_next : Cal l.prog w K mg base "_law_next" 3 ["_law_h", "_law_limit"] (FBh (A := Int) (R := Int) (fun a => [eI a]) (fun v => .sh (eI v)) (fun a => m_law_next a)) := ⟨f_law_next, _, ok_law_next F_law_next B, mg_law_next, kp_law_next, b_law_next⟩
  have c_law_marks : Cal l.prog w K mg base "_law_marks" 5 ["_law_h", "_law_most", "_law_wide"] (FBh (A := Int × Int) (R := List Int) (fun a => [eI a.1, eI a.2]) (fun v => .sh ((eT eI) v)) (fun a => m_law_marks a.1 a.2)) := ⟨f_law_marks, _, ok_law_marks F_law_marks B c_law_next, mg_law_marks, kp_law_marks, b_law_marks⟩
  have c_checksum : Cal l.prog w K mg base "checksum" 3 ["values"] (FM (xcx [Cx_0, Cx_1, Cx_2, Cx_3, 0, 0, 0, 0, 0, 0, 0, 0, 0, 0, 0, 0, 0, 0, 0, 0, 0, Cx_21]) (A := List Int) (R := Int) (fun a => [(eL eI) a]) (fun v => .sh (eI v)) (fun a => m_checksum a)) := ⟨f_checksum, _, ok_checksum F_checksum B mg_CHECK, mg_checksum, kp_checksum, b_checksum⟩
  have c_is_name : Cal l.prog w K mg base "is_name" 3 ["name"] (FM (xcx [Cx_0, Cx_1, Cx_2, Cx_3, 0, 0, 0, 0, 0, 0, 0, 0, 0, 0, 0, 0, 0, 0, 0, 0, 0, Cx_21]) (A := S) (R := Bool) (fun a => [eZ a]) (fun v => .sh (eB v)) (fun a => m_is_name a)) := ⟨f_is_name, _, ok_is_name F_is_name B mg_LETTERS mg_MAX_LETTERS, mg_is_name, kp_is_name, b_is_name⟩
  have k_Rack : MakeD l.prog w K mg base "Rack" C_Rack 5 ["self", "rulers"] (FMI (xcx [Cx_0, Cx_1, Cx_2, Cx_3, 0, 0, 0, 0, 0, 0, 0, 0, 0, 0, 0, 0, 0, 0, 0, 0, 0, Cx_21]) (A := List (S × Rul)) (R := Rak) (fun a => [(eD kZ (eRul C_Ruler)) a]) (fun r => [eD kZ (eRul C_Ruler) r.held]) (fun a => mk_Rack a)) := ⟨f_Rack_init, _, ⟨mki_Rack, at_Rack_init, fn_Rack_init, kc_Rack⟩, mg_Rack, ok_Rack_init F_Rack_init B c_is_name cl_Rack mg_MAX_RULERS xw_InvalidRack, b_Rack_init⟩
  have c_is_number : Cal l.prog w K mg base "is_number" 3 ["value", "lowest", "highest"] (FM (xcx [Cx_0, Cx_1, Cx_2, Cx_3, 0, 0, 0, 0, 0, 0, 0, 0, 0, 0, 0, 0, 0, 0, 0, 0, 0, Cx_21]) (A := Int × Int × Int) (R := Bool) (fun a => [eI a.1, eI a.2.1, eI a.2.2]) (fun v => .sh (eB v)) (fun a => .ok (m_is_number a.1 a.2.1 a.2.2))) := ⟨f_is_number, _, ok_is_number F_is_number B, mg_is_number, kp_is_number, b_is_number⟩
  have k_Ruler : MakeD l.prog w K mg base "Ruler" C_Ruler 5 ["self", "marks", "error"] (FMI (xcx [Cx_0, Cx_1, Cx_2, Cx_3, 0, 0, 0, 0, 0, 0, 0, 0, 0, 0, 0, 0, 0, 0, 0, 0, 0, Cx_21]) (A := (List Int) × Int) (R := Rul) (fun a => [(eT eI) a.1, eI a.2]) (fun r => [.int r.error, .tup (r.marks.map D.int)]) (fun a => mk_Ruler a.1 a.2)) := ⟨f_Ruler_init, _, ⟨mki_Ruler, at_Ruler_init, fn_Ruler_init, kc_Ruler⟩, mg_Ruler, ok_Ruler_init F_Ruler_init B c_is_number cl_Ruler mg_MAX_ERROR mg_MAX_LENGTH mg_MAX_MARKS mg_MIN_MARKS xw_InvalidRuler, b_Ruler_init⟩
  have c_rack_of : Cal l.prog w K mg base "rack_of" 8 ["rows"] (FM (xcx [Cx_0, Cx_1, Cx_2, Cx_3, 0, 0, 0, 0, 0, 0, 0, 0, 0, 0, 0, 0, 0, 0, 0, 0, 0, Cx_21]) (A := List ((S × Int × List Int))) (R := Rak) (fun a => [(eL (eP3 eZ eI (eT eI))) a]) (fun v => .sh ((eRak C_Rack C_Ruler) v)) (fun a => m_rack_of a)) := ⟨f_rack_of, _, ok_rack_of F_rack_of B k_Rack k_Ruler, mg_rack_of, kp_rack_of, b_rack_of⟩
  have d_Reader_take : MethD l.prog w K mg base C_Reader "take" 5 ["self", "smallest", "largest"] (FMS (xcx [Cx_0, Cx_1, Cx_2, Cx_3, 0, 0, 0, 0, 0, 0, 0, 0, 0, 0, 0, 0, 0, 0, 0, 0, 0, Cx_21]) C_Reader is_Reader (σT := S_Reader) (A := Int × Int) (R := Int) (sl_Reader) (fun a => [eI a.1, eI a.2]) (fun v => .sh (eI v)) (fun s a => m_Reader_take s a.1 a.2)) := ⟨f_Reader_take, _, ⟨at_Reader_take, fn_Reader_take, kp_Reader_take⟩, ok_Reader_take F_Reader_take B c_is_number cl_Reader xw_DecodeError, b_Reader_take⟩
  have d_Reader_take_marks : MethD l.prog w K mg base C_Reader "take_marks" 7 ["self"] (FMS (xcx [Cx_0, Cx_1, Cx_2, Cx_3, 0, 0, 0, 0, 0, 0, 0, 0, 0, 0, 0, 0, 0, 0, 0, 0, 0, Cx_21]) C_Reader is_Reader (σT := S_Reader) (A := Unit) (R := List Int) (sl_Reader) (fun _ => []) (fun v => .sh ((eT eI) v)) (fun s _ => m_Reader_take_marks s)) := ⟨f_Reader_take_marks, _, ⟨at_Reader_take_marks, fn_Reader_take_marks, kp_Reader_take_marks⟩, ok_Reader_take_marks F_Reader_take_marks B mg_BASE mg_MAX_MARKS mg_MIN_MARKS cl_Reader d_Reader_take, b_Reader_take_marks⟩
  have d_Reader_take_name : MethD l.prog w K mg base C_Reader "take_name" 7 ["self", "last"] (FMS (xcx [Cx_0, Cx_1, Cx_2, Cx_3, 0, 0, 0, 0, 0, 0, 0, 0, 0, 0, 0, 0, 0, 0, 0, 0, 0, Cx_21]) C_Reader is_Reader (σT := S_Reader) (A := S) (R := S) (sl_Reader) (fun a => [eZ a]) (fun v => .sh (eZ v)) (fun s a => m_Reader_take_name s a)) := ⟨f_Reader_take_name, _, ⟨at_Reader_take_name, fn_Reader_take_name, kp_Reader_take_name⟩, ok_Reader_take_name F_Reader_take_name B mg_LETTERS mg_MAX_LETTERS cl_Reader d_Reader_take xw_DecodeError, b_Reader_take_name⟩
  have k_Reader : MakeS l.prog w K mg base "Reader" C_Reader 3 ["self", "values"] is_Reader (FIS (A := List Int) (fun a => [(eL eI) a]) (fun a => [(eL eI) a, .int 0])) := ⟨f_Reader_init, _, ⟨mki_Reader, at_Reader_init, fn_Reader_init, kc_Reader⟩, mg_Reader, ok_Reader_init F_Reader_init B cl_Reader, b_Reader_init⟩
  have c_decode_rack : Cal l.prog w K mg base "decode_rack" 10 ["values"] (FM (xcx [Cx_0, Cx_1, Cx_2, Cx_3, 0, 0, 0, 0, 0, 0, 0, 0, 0, 0, 0, 0, 0, 0, 0, 0, 0, Cx_21]) (A := List Int) (R := Rak) (fun a => [(eL eI) a]) (fun v => .sh ((eRak C_Rack C_Ruler) v)) (fun a => m_decode_rack a)) := ⟨f_decode_rack, _, ok_decode_rack F_decode_rack B c_checksum c_rack_of mg_FIRST mg_MAX_ERROR mg_MAX_RULERS cl_Reader d_Reader_take d_Reader_take_marks d_Reader_take_name k_Reader xw_DecodeError, mg_decode_rack, kp_decode_rack, b_decode_rack⟩
  have c_law_seen : Cal l.prog w K mg base "_law_seen" 12 ["_law_values"] (FM (xcx [Cx_0, Cx_1, Cx_2, Cx_3, 0, 0, 0, 0, 0, 0, 0, 0, 0, 0, 0, 0, 0, 0, 0, 0, 0, Cx_21]) (A := List Int) (R := Int ⊕ Rak) (fun a => [(eL eI) a]) (fun v => .sh ((eSi (eRak C_Rack C_Ruler)) v)) (fun a => m_law_seen a)) := ⟨f_law_seen, _, ok_law_seen F_law_seen B c_decode_rack ec_DecodeError emm_DecodeError nf_DecodeError_offset xf_DecodeError xm_DecodeError, mg_law_seen, kp_law_seen, b_law_seen⟩
  have c_law_sum : Cal l.prog w K mg base "_law_sum" 3 ["_law_values"] (FM (xcx [Cx_0, Cx_1, Cx_2, Cx_3, 0, 0, 0, 0, 0, 0, 0, 0, 0, 0, 0, 0, 0, 0, 0, 0, 0, Cx_21]) (A := List Int) (R := Int) (fun a => [(eL eI) a]) (fun v => .sh (eI v)) (fun a => m_law_sum a)) := ⟨f_law_sum, _, ok_law_sum F_law_sum B, mg_law_sum, kp_law_sum, b_law_sum⟩
  have p_Ruler_error : PropD l.prog w K mg base C_Ruler "error" 3 (FM (xcx [Cx_0, Cx_1, Cx_2, Cx_3, 0, 0, 0, 0, 0, 0, 0, 0, 0, 0, 0, 0, 0, 0, 0, 0, 0, Cx_21]) (A := Rul) (R := Int) (fun a => [(eRul C_Ruler) a]) (fun v => .sh (eI v)) (fun a => .ok (m_Ruler_error a))) := ⟨p_Ruler_error, f_Ruler_error, _, at_Ruler_error, sp_Ruler_error, tk_Ruler_error, ⟨_, rc_Ruler_error⟩, ok_Ruler_error F_Ruler_error B cl_Ruler, b_Ruler_error⟩
  have p_Ruler_marks : PropD l.prog w K mg base C_Ruler "marks" 3 (FM (xcx [Cx_0, Cx_1, Cx_2, Cx_3, 0, 0, 0, 0, 0, 0, 0, 0, 0, 0, 0, 0, 0, 0, 0, 0, 0, Cx_21]) (A := Rul) (R := List Int) (fun a => [(eRul C_Ruler) a]) (fun v => .sh ((eT eI) v)) (fun a => .ok (m_Ruler_marks a))) := ⟨p_Ruler_marks, f_Ruler_marks, _, at_Ruler_marks, sp_Ruler_marks, tk_Ruler_marks, ⟨_, rc_Ruler_marks⟩, ok_Ruler_marks F_Ruler_marks B cl_Ruler, b_Ruler_marks⟩
  have x_Ruler_len : SpecD l.prog w K mg base C_Ruler "__len__" 3 ["self"] (FM (xcx [Cx_0, Cx_1, Cx_2, Cx_3, 0, 0, 0, 0, 0, 0, 0, 0, 0, 0, 0, 0, 0, 0, 0, 0, 0, Cx_21]) (A := Rul) (R := Int) (fun a => [(eRul C_Ruler) a]) (fun v => .sh (eI v)) (fun a => .ok (m_Ruler___len a))) := ⟨f_Ruler_len, _, at_Ruler_len, fn_Ruler_len, ok_Ruler_len F_Ruler_len B cl_Ruler, b_Ruler_len⟩
  have c_ruler_codes : Cal l.prog w K mg base "ruler_codes" 6 ["name", "ruler"] (FM (xcx [Cx_0, Cx_1, Cx_2, Cx_3, 0, 0, 0, 0, 0, 0, 0, 0, 0, 0, 0, 0, 0, 0, 0, 0, 0, Cx_21]) (A := S × Rul) (R := List Int) (fun a => [eZ a.1, (eRul C_Ruler) a.2]) (fun v => .fr ((eL eI) v)) (fun a => m_ruler_codes a.1 a.2)) := ⟨f_ruler_codes, _, ok_ruler_codes F_ruler_codes B xg_divmod cl_Ruler mg_BASE mg_LETTERS mg_MIN_MARKS p_Ruler_error p_Ruler_marks x_Ruler_len, mg_ruler_codes, kp_ruler_codes, b_ruler_codes⟩
  have p_Rack_names : PropD l.prog w K mg base C_Rack "names" 3 (FM (xcx [Cx_0, Cx_1, Cx_2, Cx_3, 0, 0, 0, 0, 0, 0, 0, 0, 0, 0, 0, 0, 0, 0, 0, 0, 0, Cx_21]) (A := Rak) (R := List S) (fun a => [(eRak C_Rack C_Ruler) a]) (fun v => .sh ((eT eZ) v)) (fun a => .ok (m_Rack_names a))) := ⟨p_Rack_names, f_Rack_names, _, at_Rack_names, sp_Rack_names, tk_Rack_names, ⟨_, rc_Rack_names⟩, ok_Rack_names F_Rack_names B cl_Rack, b_Rack_names⟩
  have x_Rack_getitem : ItemD l.prog w K mg base C_Rack 3 ["self", "name"] (FM (xcx [Cx_0, Cx_1, Cx_2, Cx_3, 0, 0, 0, 0, 0, 0, 0, 0, 0, 0, 0, 0, 0, 0, 0, 0, 0, Cx_21]) (A := Rak × S) (R := Rul) (fun a => [(eRak C_Rack C_Ruler) a.1, eZ a.2]) (fun v => .sh ((eRul C_Ruler) v)) (fun a => m_Rack___getitem a.1 a.2)) := ⟨f_Rack_getitem, _, at_Rack_getitem, fn_Rack_getitem, (by unfold PySem.W.fnIn; rw [l_Rack_getitem]), ok_Rack_getitem F_Rack_getitem B cl_Rack xc_UnknownName, b_Rack_getitem⟩
  have x_Rack_len : SpecD l.prog w K mg base C_Rack "__len__" 3 ["self"] (FM (xcx [Cx_0, Cx_1, Cx_2, Cx_3, 0, 0, 0, 0, 0, 0, 0, 0, 0, 0, 0, 0, 0, 0, 0, 0, 0, Cx_21]) (A := Rak) (R := Int) (fun a => [(eRak C_Rack C_Ruler) a]) (fun v => .sh (eI v)) (fun a => .ok (m_Rack___len a))) := ⟨f_Rack_len, _, at_Rack_len, fn_Rack_len, ok_Rack_len F_Rack_len B cl_Rack, b_Rack_len⟩
  have c_encode_rack : Cal l.prog w K mg base "encode_rack" 8 ["rack"] (FM (xcx [Cx_0, Cx_1, Cx_2, Cx_3, 0, 0, 0, 0, 0, 0, 0, 0, 0, 0, 0, 0, 0, 0, 0, 0, 0, Cx_21]) (A := Rak) (R := List Int) (fun a => [(eRak C_Rack C_Ruler) a]) (fun v => .fr ((eL eI) v)) (fun a => m_encode_rack a)) := ⟨f_encode_rack, _, ok_encode_rack F_encode_rack B c_checksum c_ruler_codes cl_Rack mg_FIRST p_Rack_names x_Rack_getitem x_Rack_len, mg_encode_rack, kp_encode_rack, b_encode_rack⟩
  have x_Ruler_eq : SpecD l.prog w K mg base C_Ruler "__eq__" 6 ["self", "other"] (FM (xcx [Cx_0, Cx_1, Cx_2, Cx_3, 0, 0, 0, 0, 0, 0, 0, 0, 0, 0, 0, 0, 0, 0, 0, 0, 0, Cx_21]) (A := Rul × Rul) (R := Bool) (fun a => [(eRul C_Ruler) a.1, (eRul C_Ruler) a.2]) (fun v => .sh (eB v)) (fun a => .ok (m_Ruler___eq a.1 a.2))) := ⟨f_Ruler_eq, _, at_Ruler_eq, fn_Ruler_eq, ok_Ruler_eq F_Ruler_eq B cl_Ruler mg_Ruler p_Ruler_error p_Ruler_marks, b_Ruler_eq⟩
  have x_Rack_eq : SpecD l.prog w K mg base C_Rack "__eq__" 9 ["self", "other"] (FM (xcx [Cx_0, Cx_1, Cx_2, Cx_3, 0, 0, 0, 0, 0, 0, 0, 0, 0, 0, 0, 0, 0, 0, 0, 0, 0, Cx_21]) (A := Rak × Rak) (R := Bool) (fun a => [(eRak C_Rack C_Ruler) a.1, (eRak C_Rack C_Ruler) a.2]) (fun v => .sh (eB v)) (fun a => m_Rack___eq a.1 a.2)) := ⟨f_Rack_eq, _, at_Rack_eq, fn_Rack_eq, ok_Rack_eq F_Rack_eq B cl_Rack cl_Ruler mg_Rack ne_Ruler p_Rack_names x_Rack_getitem x_Ruler_eq, b_Rack_eq⟩
  exact ok_law (cx := xcx [Cx_0, Cx_1, Cx_2, Cx_3, 0, 0, 0, 0, 0, 0, 0, 0, 0, 0, 0, 0, 0, 0, 0, 0, 0, Cx_21]) F_law B c_law_mix c_law_code c_law_marks c_law_next c_law_seen c_law_sum c_encode_rack cl_Rack k_Rack k_Ruler ki_Rack ne_Rack x_Rack_eq
theorem walk {l : PySem.W.OpenLaw} {q : Program} {loose : List Str} {XP : (Str → Option Value) → Heap → Prop} {YP : World → Heap → Prop} {d : DefRec} {K : Params → PySem.W.Frag} (hn : l.most = some 63) (hdf : d.params.defaults = [])
    (hY : ∀ (w : World) (h : Heap), YP w h → (K w.params).In h)
    (F : ∀ (w : World) (mg : Str → Option Value) (fa : Addr) (h : Heap), (K w.params).In h → h.Ns mainGlobals mg → mg d.name = some (.ref fa) →
      ∃ fd : FuncData, (∀ (s : Shared) (u : Value), BindsTo s fd ⟨[u], []⟩ [("_law_script", u)]) ∧ ∀ base : Heap, (K w.params).In base → base.Ns mainGlobals mg → FnOk l.prog w (K w.params) mg base (L2.CX l.prog w) 14 fa fd ["_law_script"] (spD (K w.params) (FLaw m_law))) :
    PySem.W.WalkO q loose XP YP l.row.toRowW d [] (fun f vs => PySem.call f vs) :=
  L2.walk_of (n := 63) (k := 14) (x := "_law_script") (CX := fun w => L2.CX l.prog w) (sp := fun w => spD (K w.params) (FLaw m_law)) hn (by decide) hdf ⟨rfl, by decide, by decide⟩ hY F (fun _ H a ns hl _ hS => law_sp hl hS) fun _ _ _ _ _ h => by
    obtain ⟨_, _, _, _, _, _, _, _, _, _, _, _, z⟩ := h
    exact z
end
end RB
open PySem PySem.W PyProof.Rows
set_option maxRecDepth 100000 in
set_option maxHeartbeats 0 in
theorem PySem.Challenge.cw_rulerbits_k91_whole_names_that_do_not_as_holds : PySem.Challenge.rw_rulerbits_k91_whole_names_that_do_not_as.Holds := by
  w_on; o_law; k_head; (case hw => w_witness2)
  k_fill
  refine RB.walk (l := PySem.Challenge.rw_rulerbits_k91_whole_names_that_do_not_as) rfl rfl (fun w h Y => PySem.W.kIn_of Y) ?F
  case F =>
    intro w mg fa h KX G hmg
    refine' RB.all_mk KX G hmg ?z_int ?z_len ?z_list ?z_range ?z_sorted ?z_tuple ?z_dict ?z_isinstance ?z_bool ?z_str ?z_enumerate ?z_reversed ?z_abs ?z_min ?z_max ?z_sum ?z_zip ?z_set ?z_all ?z_divmod ?g_CHECK ?g_LETTERS ?g_MAX_LETTERS ?g_MAX_RULERS ?g_MAX_ERROR ?g_MAX_LENGTH ?g_MAX_MARKS ?g_MIN_MARKS ?g_FIRST ?g_BASE ?g_Ruler ?pg_Ruler ?ic_Ruler ?po_Ruler ?sa_Ruler ?ca_Ruler ?cn_Ruler ?ct_Ruler ?cm_Ruler ?sa_Ruler_own_error ?sg_Ruler_own_error ?sk_Ruler_own_error ?sy_Ruler_own_error ?sx_Ruler_own_error ?sa_Ruler_own_marks ?sg_Ruler_own_marks ?sk_Ruler_own_marks ?sy_Ruler_own_marks ?sx_Ruler_own_marks ?nf_Ruler ?g_Rack ?pg_Rack ?ic_Rack ?po_Rack ?sa_Rack ?ca_Rack ?cn_Rack ?ct_Rack ?cm_Rack ?sa_Rack_held ?sg_Rack_held ?sk_Rack_held ?sy_Rack_held ?sx_Rack_held ?nf_Rack ?g_Reader ?pg_Reader ?ic_Reader ?po_Reader ?sa_Reader ?sa_Reader_codes ?sg_Reader_codes ?sk_Reader_codes ?sy_Reader_codes ?sx_Reader_codes ?sa_Reader_offset ?sg_Reader_offset ?sk_Reader_offset ?sy_Reader_offset ?sx_Reader_offset ?g_RackError ?xt_RackError ?xi_RackError ?xb_RackError ?g_InvalidRuler ?xt_InvalidRuler ?xi_InvalidRuler ?xb_InvalidRuler ?g_InvalidRack ?xt_InvalidRack ?xi_InvalidRack ?xb_InvalidRack ?g_UnknownName ?xt_UnknownName ?xi_UnknownName ?xb_UnknownName ?g_DecodeError ?xt_DecodeError ?xi_DecodeError ?xb_DecodeError ?xk_InvalidRuler ?wq_InvalidRuler ?ws_InvalidRuler ?nf_InvalidRuler_part ?nf_InvalidRuler_index ?wi_InvalidRuler ?wt_InvalidRuler ?wu_InvalidRuler ?wm_InvalidRuler ?w_any ?wl_InvalidRuler ?wc_InvalidRuler ?wd_InvalidRuler ?we_InvalidRuler ?wf_InvalidRuler ?w_top ?wz_InvalidRuler ?z_super ?xg_InvalidRuler ?xa_InvalidRuler ?xd_InvalidRuler ?xl_InvalidRuler ?xn_InvalidRuler ?xo_InvalidRuler ?xr_InvalidRuler ?xv_InvalidRuler ?xe_InvalidRuler ?xd_RackError ?xk_InvalidRack ?wq_InvalidRack ?ws_InvalidRack ?nf_InvalidRack_name ?wi_InvalidRack ?wt_InvalidRack ?wu_InvalidRack ?wm_InvalidRack ?wl_InvalidRack ?wc_InvalidRack ?wd_InvalidRack ?we_InvalidRack ?wf_InvalidRack ?wz_InvalidRack ?xg_InvalidRack ?xa_InvalidRack ?xd_InvalidRack ?xl_InvalidRack ?xn_InvalidRack ?xo_InvalidRack ?xr_InvalidRack ?xv_InvalidRack ?xe_InvalidRack ?xk_UnknownName ?xq_UnknownName ?xg_UnknownName ?xa_UnknownName ?xd_UnknownName ?xl_UnknownName ?xn_UnknownName ?xo_UnknownName ?xr_UnknownName ?xv_UnknownName ?xe_UnknownName ?xk_DecodeError ?wq_DecodeError ?ws_DecodeError ?nf_DecodeError_offset ?wi_DecodeError ?wt_DecodeError ?wu_DecodeError ?wm_DecodeError ?wl_DecodeError ?wc_DecodeError ?wd_DecodeError ?we_DecodeError ?wf_DecodeError ?wz_DecodeError ?xg_DecodeError ?xa_DecodeError ?xd_DecodeError ?xl_DecodeError ?xn_DecodeError ?xo_DecodeError ?xr_DecodeError ?xv_DecodeError ?xe_DecodeError ?xse_DecodeError ?nn_Rack ?nn_Ruler ?si_Rack ?zv_divmod ?a_law_mix ?l_law_mix ?c_law_mix ?kp_law_mix ?a_law_code ?l_law_code ?c_law_code ?kp_law_code ?a_law_next ?l_law_next ?c_law_next ?kp_law_next ?a_law_marks ?l_law_marks ?c_law_marks ?kp_law_marks ?a_checksum ?l_checksum ?c_checksum ?kp_checksum ?a_is_name ?l_is_name ?c_is_name ?kp_is_name ?at_Rack_init ?fn_Rack_init ?l_Rack_init ?c_Rack_init ?kp_Rack_init ?mki_Rack ?kc_Rack ?a_is_number ?l_is_number ?c_is_number ?kp_is_number ?at_Ruler_init ?fn_Ruler_init ?l_Ruler_init ?c_Ruler_init ?kp_Ruler_init ?mki_Ruler ?kc_Ruler ?a_rack_of ?l_rack_of ?c_rack_of ?kp_rack_of ?at_Reader_take ?fn_Reader_take ?l_Reader_take ?c_Reader_take ?kp_Reader_take ?at_Reader_take_marks ?fn_Reader_take_marks ?l_Reader_take_marks ?c_Reader_take_marks ?kp_Reader_take_marks ?at_Reader_take_name ?fn_Reader_take_name ?l_Reader_take_name ?c_Reader_take_name ?kp_Reader_take_name ?at_Reader_init ?fn_Reader_init ?l_Reader_init ?c_Reader_init ?kp_Reader_init ?mki_Reader ?kc_Reader ?a_decode_rack ?l_decode_rack ?c_decode_rack ?kp_decode_rack ?a_law_seen ?l_law_seen ?c_law_seen ?kp_law_seen ?a_law_sum ?l_law_sum ?c_law_sum ?kp_law_sum ?at_Ruler_error ?sp_Ruler_error ?tk_Ruler_error ?rc_Ruler_error ?l_Ruler_error ?c_Ruler_error ?kp_Ruler_error ?at_Ruler_marks ?sp_Ruler_marks ?tk_Ruler_marks ?rc_Ruler_marks ?l_Ruler_marks ?c_Ruler_marks ?kp_Ruler_marks ?at_Ruler_len ?fn_Ruler_len ?l_Ruler_len ?c_Ruler_len ?kp_Ruler_len ?a_ruler_codes ?l_ruler_codes ?c_ruler_codes ?kp_ruler_codes ?at_Rack_names ?sp_Rack_names ?tk_Rack_names ?rc_Rack_names ?l_Rack_names ?c_Rack_names ?kp_Rack_names ?at_Rack_getitem ?fn_Rack_getitem ?l_Rack_getitem ?c_Rack_getitem ?kp_Rack_getitem ?at_Rack_len ?fn_Rack_len ?l_Rack_len ?c_Rack_len ?kp_Rack_len ?a_encode_rack ?l_encode_rack ?c_encode_rack ?kp_encode_rack ?at_Ruler_eq ?fn_Ruler_eq ?l_Ruler_eq ?c_Ruler_eq ?kp_Ruler_eq ?at_Rack_eq ?fn_Rack_eq ?l_Rack_eq ?c_Rack_eq ?kp_Rack_eq ?a_law ?l_law ?c_law ?kp_law
    (case z_int => k_is)
    (case z_len => k_is)
    (case z_list => k_is)
    (case z_range => k_is)
    (case z_sorted => k_is)
    (case z_tuple => k_is)
    (case z_dict => k_is)
    (case z_isinstance => k_is)
    (case z_bool => k_is)
    (case z_str => k_is)
    (case z_enumerate => k_is)
    (case z_reversed => k_is)
    (case z_abs => k_is)
    (case z_min => k_is)
    (case z_max => k_is)
    (case z_sum => k_is)
    (case z_zip => k_is)
    (case z_set => k_is)
    (case z_all => k_is)
    (case z_divmod => k_is)
    (case g_CHECK => k_is)
    (case g_LETTERS => k_is)
    (case g_MAX_LETTERS => k_is)
    (case g_MAX_RULERS => k_is)
    (case g_MAX_ERROR => k_is)
    (case g_MAX_LENGTH => k_is)
    (case g_MAX_MARKS => k_is)
    (case g_MIN_MARKS => k_is)
    (case g_FIRST => k_is)
    (case g_BASE => k_is)
    (case g_Ruler => k_is)
    (case pg_Ruler => k_is)
    (case ic_Ruler => k_is)
    (case po_Ruler => k_is)
    (case sa_Ruler => k_is)
    (case ca_Ruler => k_is)
    (case cn_Ruler => k_is)
    (case ct_Ruler => k_is)
    (case cm_Ruler => k_is)
    (case sa_Ruler_own_error => k_is)
    (case sg_Ruler_own_error => k_is)
    (case sk_Ruler_own_error => k_is)
    (case sy_Ruler_own_error => k_is)
    (case sx_Ruler_own_error => k_is)
    (case sa_Ruler_own_marks => k_is)
    (case sg_Ruler_own_marks => k_is)
    (case sk_Ruler_own_marks => k_is)
    (case sy_Ruler_own_marks => k_is)
    (case sx_Ruler_own_marks => k_is)
    (case nf_Ruler => k_is)
    (case g_Rack => k_is)
    (case pg_Rack => k_is)
    (case ic_Rack => k_is)
    (case po_Rack => k_is)
    (case sa_Rack => k_is)
    (case ca_Rack => k_is)
    (case cn_Rack => k_is)
    (case ct_Rack => k_is)
    (case cm_Rack => k_is)
    (case sa_Rack_held => k_is)
    (case sg_Rack_held => k_is)
    (case sk_Rack_held => k_is)
    (case sy_Rack_held => k_is)
    (case sx_Rack_held => k_is)
    (case nf_Rack => k_is)
    (case g_Reader => k_is)
    (case pg_Reader => k_is)
    (case ic_Reader => k_is)
    (case po_Reader => k_is)
    (case sa_Reader => k_is)
    (case sa_Reader_codes => k_is)
    (case sg_Reader_codes => k_is)
    (case sk_Reader_codes => k_is)
    (case sy_Reader_codes => k_is)
    (case sx_Reader_codes => k_is)
    (case sa_Reader_offset => k_is)
    (case sg_Reader_offset => k_is)
    (case sk_Reader_offset => k_is)
    (case sy_Reader_offset => k_is)
    (case sx_Reader_offset => k_is)
    (case g_RackError => k_is)
    (case xt_RackError => k_is)
    (case xi_RackError => k_is)
    (case xb_RackError => k_is)
    (case g_InvalidRuler => k_is)
    (case xt_InvalidRuler => k_is)
    (case xi_InvalidRuler => k_is)
    (case xb_InvalidRuler => k_is)
    (case g_InvalidRack => k_is)
    (case xt_InvalidRack => k_is)
    (case xi_InvalidRack => k_is)
    (case xb_InvalidRack => k_is)
    (case g_UnknownName => k_is)
    (case xt_UnknownName => k_is)
    (case xi_UnknownName => k_is)
    (case xb_UnknownName => k_is)
    (case g_DecodeError => k_is)
    (case xt_DecodeError => k_is)
    (case xi_DecodeError => k_is)
    (case xb_DecodeError => k_is)
    (case xk_InvalidRuler => k_is)
    (case wq_InvalidRuler => kx_is)
    (case ws_InvalidRuler => k_is)
    (case nf_InvalidRuler_part => k_is)
    (case nf_InvalidRuler_index => k_is)
    (case wi_InvalidRuler => k_is)
    (case wt_InvalidRuler => k_is)
    (case wu_InvalidRuler => ks_is)
    (case wm_InvalidRuler => k_is)
    (case w_any => k_is)
    (case wl_InvalidRuler => k_is)
    (case wc_InvalidRuler => k_is)
    (case wd_InvalidRuler => k_is)
    (case we_InvalidRuler => first | rfl | decide +kernel)
    (case wf_InvalidRuler => first | rfl | decide +kernel)
    (case w_top => first | rfl | decide +kernel)
    (case wz_InvalidRuler => k_is)
    (case z_super => k_is)
    (case xg_InvalidRuler => k_is)
    (case xa_InvalidRuler => k_is)
    (case xd_InvalidRuler => k_is)
    (case xl_InvalidRuler => k_is)
    (case xn_InvalidRuler => k_is)
    (case xo_InvalidRuler => k_is)
    (case xr_InvalidRuler => k_is)
    (case xv_InvalidRuler => k_is)
    (case xe_InvalidRuler => k_is)
    (case xd_RackError => k_is)
    (case xk_InvalidRack => k_is)
    (case wq_InvalidRack => kx_is)
    (case ws_InvalidRack => k_is)
    (case nf_InvalidRack_name => k_is)
    (case wi_InvalidRack => k_is)
    (case wt_InvalidRack => k_is)
    (case wu_InvalidRack => ks_is)
    (case wm_InvalidRack => k_is)
    (case wl_InvalidRack => k_is)
    (case wc_InvalidRack => k_is)
    (case wd_InvalidRack => k_is)
    (case we_InvalidRack => first | rfl | decide +kernel)
    (case wf_InvalidRack => first | rfl | decide +kernel)
    (case wz_InvalidRack => k_is)
    (case xg_InvalidRack => k_is)
    (case xa_InvalidRack => k_is)
    (case xd_InvalidRack => k_is)
    (case xl_InvalidRack => k_is)
    (case xn_InvalidRack => k_is)
    (case xo_InvalidRack => k_is)
    (case xr_InvalidRack => k_is)
    (case xv_InvalidRack => k_is)
    (case xe_InvalidRack => k_is)
    (case xk_UnknownName => k_is)
    (case xq_UnknownName => k_exc)
    (case xg_UnknownName => k_is)
    (case xa_UnknownName => k_is)
    (case xd_UnknownName => k_is)
    (case xl_UnknownName => k_is)
    (case xn_UnknownName => k_is)
    (case xo_UnknownName => k_is)
    (case xr_UnknownName => k_is)
    (case xv_UnknownName => k_is)
    (case xe_UnknownName => k_is)
    (case xk_DecodeError => k_is)
    (case wq_DecodeError => kx_is)
    (case ws_DecodeError => k_is)
    (case nf_DecodeError_offset => k_is)
    (case wi_DecodeError => k_is)
    (case wt_DecodeError => k_is)
    (case wu_DecodeError => ks_is)
    (case wm_DecodeError => k_is)
    (case wl_DecodeError => k_is)
    (case wc_DecodeError => k_is)
    (case wd_DecodeError => k_is)
    (case we_DecodeError => first | rfl | decide +kernel)
    (case wf_DecodeError => first | rfl | decide +kernel)
    (case wz_DecodeError => k_is)
    (case xg_DecodeError => k_is)
    (case xa_DecodeError => k_is)
    (case xd_DecodeError => k_is)
    (case xl_DecodeError => k_is)
    (case xn_DecodeError => k_is)
    (case xo_DecodeError => k_is)
    (case xr_DecodeError => k_is)
    (case xv_DecodeError => k_is)
    (case xe_DecodeError => k_is)
    (case xse_DecodeError => k_is)
    (case nn_Rack => k_is)
    (case nn_Ruler => k_is)
    (case si_Rack => k_is)
    (case zv_divmod => k_is)
    (case a_law_mix => k_is)
    (case l_law_mix => k_is)
    (case c_law_mix => k_is)
    (case kp_law_mix => k_is)
    (case a_law_code => k_is)
    (case l_law_code => k_is)
    (case c_law_code => k_is)
    (case kp_law_code => k_is)
    (case a_law_next => k_is)
    (case l_law_next => k_is)
    (case c_law_next => k_is)
    (case kp_law_next => k_is)
    (case a_law_marks => k_is)
    (case l_law_marks => k_is)
    (case c_law_marks => k_is)
    (case kp_law_marks => k_is)
    (case a_checksum => k_is)
    (case l_checksum => k_is)
    (case c_checksum => k_is)
    (case kp_checksum => k_is)
    (case a_is_name => k_is)
    (case l_is_name => k_is)
    (case c_is_name => k_is)
    (case kp_is_name => k_is)
    (case at_Rack_init => k_is)
    (case fn_Rack_init => k_is)
    (case l_Rack_init => k_is)
    (case c_Rack_init => k_is)
    (case kp_Rack_init => k_is)
    (case mki_Rack => k_is)
    (case kc_Rack => k_is)
    (case a_is_number => k_is)
    (case l_is_number => k_is)
    (case c_is_number => k_is)
    (case kp_is_number => k_is)
    (case at_Ruler_init => k_is)
    (case fn_Ruler_init => k_is)
    (case l_Ruler_init => k_is)
    (case c_Ruler_init => k_is)
    (case kp_Ruler_init => k_is)
    (case mki_Ruler => k_is)
    (case kc_Ruler => k_is)
    (case a_rack_of => k_is)
    (case l_rack_of => k_is)
    (case c_rack_of => k_is)
    (case kp_rack_of => k_is)
    (case at_Reader_take => k_is)
    (case fn_Reader_take => k_is)
    (case l_Reader_take => k_is)
    (case c_Reader_take => k_is)
    (case kp_Reader_take => k_is)
    (case at_Reader_take_marks => k_is)
    (case fn_Reader_take_marks => k_is)
    (case l_Reader_take_marks => k_is)
    (case c_Reader_take_marks => k_is)
    (case kp_Reader_take_marks => k_is)
    (case at_Reader_take_name => k_is)
    (case fn_Reader_take_name => k_is)
    (case l_Reader_take_name => k_is)
    (case c_Reader_take_name => k_is)
    (case kp_Reader_take_name => k_is)
    (case at_Reader_init => k_is)
    (case fn_Reader_init => k_is)
    (case l_Reader_init => k_is)
    (case c_Reader_init => k_is)
    (case kp_Reader_init => k_is)
    (case mki_Reader => k_is)
    (case kc_Reader => k_is)
    (case a_decode_rack => k_is)
    (case l_decode_rack => k_is)
    (case c_decode_rack => k_is)
    (case kp_decode_rack => k_is)
    (case a_law_seen => k_is)
    (case l_law_seen => k_is)
    (case c_law_seen => k_is)
    (case kp_law_seen => k_is)
    (case a_law_sum => k_is)
    (case l_law_sum => k_is)
    (case c_law_sum => k_is)
    (case kp_law_sum => k_is)
    (case at_Ruler_error => k_is)
    (case sp_Ruler_error => k_is)
    (case tk_Ruler_error => k_is)
    (case rc_Ruler_error => k_is)
    (case l_Ruler_error => k_is)
    (case c_Ruler_error => k_is)
    (case kp_Ruler_error => k_is)
    (case at_Ruler_marks => k_is)
    (case sp_Ruler_marks => k_is)
    (case tk_Ruler_marks => k_is)
    (case rc_Ruler_marks => k_is)
    (case l_Ruler_marks => k_is)
    (case c_Ruler_marks => k_is)
    (case kp_Ruler_marks => k_is)
    (case at_Ruler_len => k_is)
    (case fn_Ruler_len => k_is)
    (case l_Ruler_len => k_is)
    (case c_Ruler_len => k_is)
    (case kp_Ruler_len => k_is)
    (case a_ruler_codes => k_is)
    (case l_ruler_codes => k_is)
    (case c_ruler_codes => k_is)
    (case kp_ruler_codes => k_is)
    (case at_Rack_names => k_is)
    (case sp_Rack_names => k_is)
    (case tk_Rack_names => k_is)
    (case rc_Rack_names => k_is)
    (case l_Rack_names => k_is)
    (case c_Rack_names => k_is)
    (case kp_Rack_names => k_is)
    (case at_Rack_getitem => k_is)
    (case fn_Rack_getitem => k_is)
    (case l_Rack_getitem => k_is)
    (case c_Rack_getitem => k_is)
    (case kp_Rack_getitem => k_is)
    (case at_Rack_len => k_is)
    (case fn_Rack_len => k_is)
    (case l_Rack_len => k_is)
    (case c_Rack_len => k_is)
    (case kp_Rack_len => k_is)
    (case a_encode_rack => k_is)
    (case l_encode_rack => k_is)
    (case c_encode_rack => k_is)
    (case kp_encode_rack => k_is)
    (case at_Ruler_eq => k_is)
    (case fn_Ruler_eq => k_is)
    (case l_Ruler_eq => k_is)
    (case c_Ruler_eq => k_is)
    (case kp_Ruler_eq => k_is)
    (case at_Rack_eq => k_is)
    (case fn_Rack_eq => k_is)
    (case l_Rack_eq => k_is)
    (case c_Rack_eq => k_is)
    (case kp_Rack_eq => k_is)
    (case a_law => k_is)
    (case l_law => k_is)
    (case c_law => k_is)
    (case kp_law => k_is)
