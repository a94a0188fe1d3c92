import PyProof.Rows.All
import Wide.All
import OpenK.AllK
import Wide.FinOn
import HandS.ForMost
import HandS.Slots
import HandS.SlotsOwn
import HandS.TupAny
import HandS.Conv
import HandS.Rev
import HandS.Zip
import HandS.SortInts
import HandS.Style
import HandS.Flow
import HandS.Deep
import HandS.Exc
import HandS.ExcOwn
import HandS.TryOnly
import HandS.WordsExc
import HandS.Lambda
import KE.KeyNested
import HandS.IsInst
import KE.GoesMore
import HandS.DictComp
import HandS.More
import KE.KRevSl
import HandS.SetFor
import HandS.Star
import PyProof.DictUpdate
import KE.KDictSum
import HandS.Text
import HandS.SortRule
import PyProof.Rows.SortKeyStr
import HandS.DictEq
import PyProof.Rows.StrMeet
import HandS.Iter
import HandS.Wide
import KE.SortData
import KE.DataMinMax
import KE.DataCmp
import PyProof.Claim2Refuses
import HandS.Strs
import HandS.ExcIs
import HandS.ExcField
import HandS.EndOwn
import KE.KExcIs
import KE.KNestM
import KE.KDflt
import KE.KDictKeyed
import HandS.TupLen
import PyProof.TupleOfStr
import HandS.Property
import HandS.ExcInit
import HandS.MakeKwOnly
import KE.KExcSuper
import KE.KExcLine
import HandS.ClsMeth
import HandS.TupMul
import PySem.Challenge.RW_rulerbits_k43_origins_refused
set_option Elab.async false
set_option linter.all false
set_option maxRecDepth 100000
set_option maxHeartbeats 4000000
set_option autoImplicit false
namespace RB
open PySem PySem.Spec PyProof.Rows L2
inductive D where
  | non | bl (b : Bool) | int (i : Int) | str (x : Str)
  | tup (xs : List D) | lst (xs : List D)
  | dic (ks : List Key) (xs : List D)
  | ins (C : Addr) (xs : List D)
  | adr (a : Addr)
  | obj (C : Addr) (ns : List Str) (xs : List D)
  | slo (C dx : Addr) (is : List Nat) (xs : List D)
  | xdo (x : Addr) (b : Bool)
  | scr (ns : List Int)
  | tab (q : Str)
  | hob (a : Addr) (os : List (Addr × HO))
  | kd (w : World) (ks xs : List D)
mutual
def nkD : D → NestedKey
  | .int i => .num i
  | .bl b => .num (if b = true then 1 else 0)
  | .str x => .text x
  | .tup ds => .tup (nkDs ds)
  | _ => .none
def nkDs : List D → List NestedKey
  | [] => []
  | d :: ds => nkD d :: nkDs ds
end
abbrev KdE := NestedKey × Addr × V
abbrev KdR : KdE → NestedKey × Addr × Value → Prop := fun x y => y.1 = x.1 ∧ y.2.1 = x.2.1 ∧ RelV x.2.2 y.2.2
def KdAt (w : World) (h : Heap) (a : Addr) (xs : List KdE) : Prop := (a == sysModules) = false ∧ xs.length ≤ sizeLine ∧ (xs.map (·.1)).Nodup ∧
  ∃ (ys : List (NestedKey × Addr × Value)) (o : Obj) (es : Array DictEntry) (ep : Nat), Paired KdR xs ys ∧ h.get? a = some o ∧ o.ExactDict ∧ o.data = .dict es ep ∧ es.toList = ys.map fun y => (⟨y.1.hash w, .ref y.2.1, y.2.2⟩ : DictEntry)
def KdO (w : World) (a : Addr) (xs : List KdE) : HO := .ext fun h => KdAt w h a xs
/-- a slot: unknown, shared (frozen) data, an own mutable object -/
inductive Sl where
  | no | sh (d : D) | own (d : D)
/-- a result: shared data, a fresh object, the object of an own slot -/
inductive Res where
  | sh (d : D) | fr (d : D) | pk (i : Nat)
abbrev Env2 := List Sl
mutual
def Rep (K : PySem.W.Frag) (F : Hp) : D → V → Prop
  | .non, v => v = .non
  | .bl b, v => v = .bl b
  | .int i, v => v = .int i
  | .str x, v => v = .str x
  | .tup ds, v => ∃ a vs, v = .ref a ∧ SqT K F a vs ∧ RepL K F ds vs
  | .lst ds, v => ∃ a vs, v = .ref a ∧ Rd F a (.lst vs) ∧ RepL K F ds vs
  | .dic ks ds, v => ∃ a o vs, v = .ref a ∧ F a = some (.frz o (.dK (ks.zip vs))) ∧ ks.length = ds.length ∧ RepL K F ds vs
  | .ins C ds, v => ∃ a dx vs, v = .ref a ∧ SlX.Slt F a C dx (vs.map some) ∧ RepL K F ds vs
  | .adr a, v => v = .ref a
  | .obj _ _ _, _ => False
  | .slo _ _ _ _, _ => False
  | .xdo _ _, _ => False
  | .tab _, _ => False
  | .hob a os, v => v = .ref a ∧ ∀ p ∈ os, F p.1 = some p.2
  | .kd w ks ds, v => ∃ (a : Addr) (ob : Obj) (es : List KdE), v = .ref a ∧ F a = some (.frz ob (KdO w a es)) ∧ es.map (·.1) = nkDs ks ∧ RepL K F ks (es.map fun e => .ref e.2.1) ∧ RepL K F ds (es.map (·.2.2))
  | .scr ns, v => ∃ a, v = .ref a ∧ SqL K F a (ns.map V.int)
def RepL (K : PySem.W.Frag) (F : Hp) : List D → List V → Prop
  | [], vs => vs = []
  | d :: ds, vs => ∃ v r, vs = v :: r ∧ Rep K F d v ∧ RepL K F ds r
end
abbrev Ex (H H' : Hp) : Prop := ∀ a o, H a = some o → H' a = some o
theorem Ex.refl (H : Hp) : Ex H H := fun _ _ h => h
theorem Ex.trans {A B C : Hp} (x : Ex A B) (y : Ex B C) : Ex A C := fun a o h => y a o (x a o h)
theorem Ex.new {H : Hp} {p : Addr} {o : HO} (h : H p = none) : Ex H (upd H p o) := fun a u e => by
  rw [upd_ne (ne_of_none e h)]; exact e
theorem Ex.rd {F F' : Hp} (e : Ex F F') {a : Addr} {u : HO} (h : Rd F a u) : Rd F' a u := by
  rcases h with h | ⟨o, h⟩
  · exact .inl (e a _ h)
  · exact .inr ⟨o, e a _ h⟩
theorem Ex.sqL {K : PySem.W.Frag} {F F' : Hp} (e : Ex F F') {a : Addr} {xs : List V} (h : SqL K F a xs) : SqL K F' a xs := by
  rcases h with h | h
  · exact .inl (e.rd h)
  · exact .inr h
theorem Ex.sqT {K : PySem.W.Frag} {F F' : Hp} (e : Ex F F') {a : Addr} {xs : List V} (h : SqT K F a xs) : SqT K F' a xs := by
  rcases h with h | h
  · exact .inl (e.rd h)
  · exact .inr h
theorem Ex.slt {F F' : Hp} (e : Ex F F') {a C dx : Addr} {vs : List (Option V)} (h : SlX.Slt F a C dx vs) : SlX.Slt F' a C dx vs := by
  rcases h with ⟨h1, h2⟩ | ⟨h1, h2⟩
  · exact .inl ⟨e _ _ h1, h2⟩
  · exact .inr ⟨e _ _ h1, e _ _ h2⟩
mutual
theorem Rep.mono {K : PySem.W.Frag} {F F' : Hp} (e : Ex F F') : ∀ (d : D) (v : V), Rep K F d v → Rep K F' d v
  | .non, v, h => h
  | .bl b, v, h => h
  | .int i, v, h => h
  | .str x, v, h => h
  | .tup ds, v, h => by
    obtain ⟨a, vs, h1, h2, h3⟩ := h
    exact ⟨a, vs, h1, e.sqT h2, RepL.mono e ds vs h3⟩
  | .lst ds, v, h => by
    obtain ⟨a, vs, h1, h2, h3⟩ := h
    exact ⟨a, vs, h1, e.rd h2, RepL.mono e ds vs h3⟩
  | .dic ks ds, v, h => by
    obtain ⟨a, o, vs, h1, h2, h4, h3⟩ := h
    exact ⟨a, o, vs, h1, e _ _ h2, h4, RepL.mono e ds vs h3⟩
  | .ins C ds, v, h => by
    obtain ⟨a, dx, vs, h1, h2, h3⟩ := h
    exact ⟨a, dx, vs, h1, e.slt h2, RepL.mono e ds vs h3⟩
  | .adr a, v, h => h
  | .obj _ _ _, v, h => h
  | .slo _ _ _ _, v, h => h
  | .xdo _ _, v, h => h
  | .tab _, v, h => h
  | .hob a os, v, h => ⟨h.1, fun p hp => e _ _ (h.2 p hp)⟩
  | .kd w ks ds, v, h => by
    obtain ⟨a, ob, es, h1, h2, h3, h4, h5⟩ := h
    exact ⟨a, ob, es, h1, e _ _ h2, h3, RepL.mono e ks _ h4, RepL.mono e ds _ h5⟩
  | .scr ns, v, h => by
    obtain ⟨a, h1, h2⟩ := h
    exact ⟨a, h1, e.sqL h2⟩
theorem RepL.mono {K : PySem.W.Frag} {F F' : Hp} (e : Ex F F') : ∀ (ds : List D) (vs : List V), RepL K F ds vs → RepL K F' ds vs
  | [], vs, h => h
  | d :: ds, vs, h => by
    obtain ⟨v, r, h1, h2, h3⟩ := h
    exact ⟨v, r, h1, Rep.mono e d v h2, RepL.mono e ds r h3⟩
end
section
variable {K : PySem.W.Frag} {F : Hp}
theorem RepL.length : ∀ {ds : List D} {vs : List V}, RepL K F ds vs → vs.length = ds.length
  | [], vs, h => by cases (show vs = [] from h); rfl
  | d :: ds, vs, h => by
    obtain ⟨v, r, rfl, _, h3⟩ := h
    rw [List.length_cons, List.length_cons, RepL.length h3]
theorem RepL.get : ∀ {ds : List D} {vs : List V} {i : Nat} {d : D}, RepL K F ds vs → ds[i]? = some d → ∃ v, vs[i]? = some v ∧ Rep K F d v
  | [], vs, i, d, h, e => by simp at e
  | d0 :: ds, vs, 0, d, h, e => by
    obtain ⟨v, r, rfl, h2, _⟩ := h
    have : d0 = d := by simpa using e
    subst this
    exact ⟨v, rfl, h2⟩
  | d0 :: ds, vs, i + 1, d, h, e => by
    obtain ⟨v, r, rfl, _, h3⟩ := h
    obtain ⟨u, h1, h2⟩ := RepL.get (i := i) h3 (by simpa using e)
    exact ⟨u, by simpa using h1, h2⟩
theorem RepL.append : ∀ {ds es : List D} {vs us : List V}, RepL K F ds vs → RepL K F es us → RepL K F (ds ++ es) (vs ++ us)
  | [], es, vs, us, h, g => by cases (show vs = [] from h); exact g
  | d :: ds, es, vs, us, h, g => by
    obtain ⟨v, r, rfl, h2, h3⟩ := h
    exact ⟨v, r ++ us, rfl, h2, RepL.append h3 g⟩
theorem RepL.one {d : D} {v : V} (h : Rep K F d v) : RepL K F [d] [v] := ⟨v, [], rfl, h, rfl⟩
theorem RepL.drop : ∀ (n : Nat) {ds : List D} {vs : List V}, RepL K F ds vs → RepL K F (ds.drop n) (vs.drop n)
  | 0, _, _, h => h
  | n + 1, [], vs, h => by cases (show vs = [] from h); exact rfl
  | n + 1, d :: ds, vs, h => by
    obtain ⟨v, r, rfl, h2, h3⟩ := h
    exact RepL.drop n h3
theorem RepL.take : ∀ (n : Nat) {ds : List D} {vs : List V}, RepL K F ds vs → RepL K F (ds.take n) (vs.take n)
  | 0, _, _, h => rfl
  | n + 1, [], vs, h => by cases (show vs = [] from h); exact rfl
  | n + 1, d :: ds, vs, h => by
    obtain ⟨v, r, rfl, h2, h3⟩ := h
    exact ⟨v, r.take n, rfl, h2, RepL.take n h3⟩
theorem RepL.set : ∀ (i : Nat) {ds : List D} {vs : List V} {d : D} {v : V}, RepL K F ds vs → Rep K F d v → RepL K F (ds.set i d) (vs.set i v)
  | i, [], vs, d, v, h, g => by cases (show vs = [] from h); exact rfl
  | 0, d0 :: ds, vs, d, v, h, g => by
    obtain ⟨u, r, rfl, _, h3⟩ := h
    exact ⟨v, r, rfl, g, h3⟩
  | i + 1, d0 :: ds, vs, d, v, h, g => by
    obtain ⟨u, r, rfl, h2, h3⟩ := h
    exact ⟨u, r.set i v, rfl, h2, RepL.set i h3 g⟩
theorem RepL.reverse : ∀ {ds : List D} {vs : List V}, RepL K F ds vs → RepL K F ds.reverse vs.reverse
  | [], vs, h => by cases (show vs = [] from h); exact rfl
  | d :: ds, vs, h => by
    obtain ⟨v, r, rfl, h2, h3⟩ := h
    rw [List.reverse_cons, List.reverse_cons]
    exact (RepL.reverse h3).append (.one h2)
/-- lists of ints -/
theorem RepL.ints : ∀ {ns : List Int} {vs : List V}, RepL K F (ns.map D.int) vs → vs = ns.map V.int
  | [], vs, h => h
  | n :: ns, vs, h => by
    obtain ⟨v, r, rfl, h2, h3⟩ := h
    cases (show v = .int n from h2)
    rw [RepL.ints h3]; rfl
end
/-- what is not frozen as it stands -/
def isDic : D → Bool
  | .lst _ => false
  | .tup _ => false
  | .int _ => false
  | .bl _ => false
  | .str _ => false
  | .non => false
  | .ins _ _ => false
  | .adr _ => false
  | _ => true
/-- the object at p, its parts frozen -/
def Own (K : PySem.W.Frag) (F H : Hp) (p : Addr) : D → Prop
  | .lst ds => ∃ vs, H p = some (.lst vs) ∧ RepL K F ds vs
  | .dic ks ds => ∃ vs, H p = some (.dK (ks.zip vs)) ∧ ks.length = ds.length ∧ RepL K F ds vs
  | .obj C ns ds => ∃ dx vs, H p = some (.ins C dx (ns.zip vs)) ∧ ns.length = ds.length ∧ RepL K F ds vs
  | .slo C dx is ds => (is = [] ∧ ds = [] ∧ H p = some (.ins C dx [])) ∨ ∃ us vs, H p = some (SlX.SlO p C dx us) ∧ is.length = ds.length ∧ RepL K F ds vs ∧ ∀ (j : Nat) (i : Nat) (v : V), is[j]? = some i → vs[j]? = some v → us[i]? = some (some v)
  | .xdo x b => H p = some (if b then .xd [] else .own x)
  | .tab q => ∃ ps : Array Value, H p = some (.tbl ps) ∧ TriplesOk ps.toList ∧ ∀ (pos : Pos) (cv : Value), codeAmong pos ps.toList = some cv → ∃ c, cv = .ref c ∧ F c = some (LamX.CodeO c q)
  | .kd w ks ds => ∃ es : List KdE, H p = some (KdO w p es) ∧ es.map (·.1) = nkDs ks ∧ RepL K F ks (es.map fun e => .ref e.2.1) ∧ RepL K F ds (es.map (·.2.2))
  | _ => False
theorem Own.mono {K : PySem.W.Frag} {F F' H H' : Hp} {p : Addr} {d : D} (e : Ex F F') (k : ∀ o, H p = some o → H' p = some o) (h : Own K F H p d) : Own K F' H' p d := by
  cases d with
  | lst ds => obtain ⟨vs, h1, h2⟩ := h; exact ⟨vs, k _ h1, RepL.mono e _ _ h2⟩
  | dic ks ds => obtain ⟨vs, h1, h3, h2⟩ := h; exact ⟨vs, k _ h1, h3, RepL.mono e _ _ h2⟩
  | obj C ns ds => obtain ⟨dx, vs, h1, h3, h2⟩ := h; exact ⟨dx, vs, k _ h1, h3, RepL.mono e _ _ h2⟩
  | slo C dx is ds =>
    rcases h with ⟨h1, h2, h3⟩ | ⟨us, vs, h1, h2, h3, h4⟩
    · exact .inl ⟨h1, h2, k _ h3⟩
    · exact .inr ⟨us, vs, k _ h1, h2, RepL.mono e _ _ h3, h4⟩
  | xdo x b => exact k _ h
  | kd w ks ds => obtain ⟨es, h1, h2, h3, h4⟩ := h; exact ⟨es, k _ h1, h2, RepL.mono e _ _ h3, RepL.mono e _ _ h4⟩
  | tab q => obtain ⟨ps, h1, h2, h3⟩ := h; exact ⟨ps, k _ h1, h2, fun pos cv hc => let ⟨c, e1, e2⟩ := h3 pos cv hc; ⟨c, e1, e _ _ e2⟩⟩
  | _ => exact h.elim
theorem Own.there {K : PySem.W.Frag} {F H : Hp} {p : Addr} {d : D} (h : Own K F H p d) : ∃ o, H p = some o := by
  cases d with
  | lst ds => obtain ⟨vs, h1, h2⟩ := h; exact ⟨_, h1⟩
  | dic ks ds => obtain ⟨vs, h1, h3, h2⟩ := h; exact ⟨_, h1⟩
  | obj C ns ds => obtain ⟨dx, vs, h1, h3, h2⟩ := h; exact ⟨_, h1⟩
  | slo C dx is ds =>
    rcases h with ⟨h1, h2, h3⟩ | ⟨us, vs, h1, h2, h3, h4⟩
    · exact ⟨_, h3⟩
    · exact ⟨_, h1⟩
  | xdo x b => exact ⟨_, h⟩
  | tab q => obtain ⟨ps, h1, _⟩ := h; exact ⟨_, h1⟩
  | kd w ks ds => obtain ⟨es, h1, _⟩ := h; exact ⟨_, h1⟩
  | _ => exact h.elim
/-- a view: frozen, or an object whose parts are -/
def Vw (K : PySem.W.Frag) (F H : Hp) (d : D) (v : V) : Prop := Rep K F d v ∨ ∃ p, v = .ref p ∧ Own K F H p d
theorem Vw.lst {K : PySem.W.Frag} {F H : Hp} (e : Ex F H) {ds : List D} {v : V} (h : Vw K F H (.lst ds) v) : ∃ a vs, v = .ref a ∧ Rd H a (.lst vs) ∧ RepL K F ds vs := by
  rcases h with ⟨a, vs, h1, h2, h3⟩ | ⟨p, h1, vs, h2, h3⟩
  · exact ⟨a, vs, h1, e.rd h2, h3⟩
  · exact ⟨p, vs, h1, .inl h2, h3⟩
theorem Vw.tup {K : PySem.W.Frag} {F H : Hp} (e : Ex F H) {ds : List D} {v : V} (h : Vw K F H (.tup ds) v) : ∃ a vs, v = .ref a ∧ SqT K H a vs ∧ RepL K F ds vs := by
  rcases h with ⟨a, vs, h1, h2, h3⟩ | ⟨p, h1, h2⟩
  · exact ⟨a, vs, h1, e.sqT h2, h3⟩
  · exact h2.elim
theorem Vw.dic {K : PySem.W.Frag} {F H : Hp} (e : Ex F H) {ks : List Key} {ds : List D} {v : V} (h : Vw K F H (.dic ks ds) v) : ∃ a vs, v = .ref a ∧ Rd H a (.dK (ks.zip vs)) ∧ ks.length = ds.length ∧ RepL K F ds vs := by
  rcases h with ⟨a, o, vs, h1, h2, h4, h3⟩ | ⟨p, h1, vs, h2, h4, h3⟩
  · exact ⟨a, vs, h1, .inr ⟨o, e _ _ h2⟩, h4, h3⟩
  · exact ⟨p, vs, h1, .inl h2, h4, h3⟩
theorem Vw.int {K : PySem.W.Frag} {F H : Hp} {i : Int} {v : V} (h : Vw K F H (.int i) v) : v = .int i := by
  rcases h with h | ⟨p, h1, h2⟩
  · exact h
  · exact h2.elim
theorem Vw.bl {K : PySem.W.Frag} {F H : Hp} {i : Bool} {v : V} (h : Vw K F H (.bl i) v) : v = .bl i := by
  rcases h with h | ⟨p, h1, h2⟩
  · exact h
  · exact h2.elim
theorem Vw.str {K : PySem.W.Frag} {F H : Hp} {i : Str} {v : V} (h : Vw K F H (.str i) v) : v = .str i := by
  rcases h with h | ⟨p, h1, h2⟩
  · exact h
  · exact h2.elim
theorem Vw.non {K : PySem.W.Frag} {F H : Hp} {v : V} (h : Vw K F H .non v) : v = .non := by
  rcases h with h | ⟨p, h1, h2⟩
  · exact h
  · exact h2.elim
theorem Vw.ins {K : PySem.W.Frag} {F H : Hp} (e : Ex F H) {C : Addr} {ds : List D} {v : V} (h : Vw K F H (.ins C ds) v) : ∃ a dx vs, v = .ref a ∧ SlX.Slt H a C dx (vs.map some) ∧ RepL K F ds vs := by
  rcases h with ⟨a, dx, vs, h1, h2, h3⟩ | ⟨p, h1, h2⟩
  · exact ⟨a, dx, vs, h1, e.slt h2, h3⟩
  · exact h2.elim
/-- the open region: objects that are known by their address, as data -/
abbrev GD := Addr → Option D
def updG (G : GD) (a : Addr) (d : D) : GD := fun b => if b = a then some d else G b
theorem updG_same {G : GD} {a : Addr} {d : D} : updG G a d a = some d := by unfold updG; rw [if_pos rfl]
theorem updG_ne {G : GD} {a b : Addr} {d : D} (h : b ≠ a) : updG G a d b = G b := by unfold updG; rw [if_neg h]
/-- F0: what was frozen at the entry; T: what others hold; F: frozen; G: the open region; H: all -/
structure Bas (K : PySem.W.Frag) (F0 T F : Hp) (G : GD) (H : Hp) : Prop where
  ff : Ex F0 F
  ft : ∀ a o, F a = some o → F0 a = some o ∨ T a = none
  fh : Ex F H
  gh : ∀ a d, G a = some d → Own K F H a d
  fg : ∀ a o, G a = some o → F a = none
  gt : ∀ a o, G a = some o → T a = none
  tk : Ex T H
def SlotOk (K : PySem.W.Frag) (T F : Hp) (G : GD) (H : Hp) : Sl → Option (Option V) → Prop
  | .no, _ => True
  | .sh d, x => ∃ v, x = some (some v) ∧ Rep K F d v
  | .own d, x => ∃ p, x = some (some (.ref p)) ∧ Own K F H p d ∧ F p = none ∧ G p = none ∧ T p = none
structure Sta (K : PySem.W.Frag) (F0 T F : Hp) (G : GD) (H : Hp) (r : Env2) (σ : L2.St) : Prop where
  bas : Bas K F0 T F G H
  len : r.length = σ.length
  sl : ∀ (i : Nat) (s : Sl), r[i]? = some s → SlotOk K T F G H s σ[i]?
  ap : ∀ (i j : Nat) (d e : D), i ≠ j → r[i]? = some (.own d) → r[j]? = some (.own e) → σ[i]? ≠ σ[j]?
def ResOk (K : PySem.W.Frag) (T F : Hp) (G : GD) (H : Hp) (r : Env2) (σ : L2.St) : Res → V → Prop
  | .sh d, v => Rep K F d v
  | .fr d, v => ∃ p, v = .ref p ∧ Own K F H p d ∧ F p = none ∧ G p = none ∧ T p = none ∧ ∀ (i : Nat) (e : D), r[i]? = some (.own e) → σ[i]? ≠ some (some (.ref p))
  | .pk i, v => σ[i]? = some (some v) ∧ ∃ d, r[i]? = some (.own d)
/-- the view of a result -/
def vw (r : Env2) : Res → Option D
  | .sh d => some d
  | .fr d => if isDic d then none else some d
  | .pk i => match r[i]? with
    | some (.own d) => some d
    | some (.sh d) => some d
    | _ => none
/-- the view of a result, or of an object of the open region -/
def VwR (r : Env2) (G : GD) (x : Res) (d : D) : Prop := vw r x = some d ∨ ∃ a, x = .sh (.adr a) ∧ G a = some d
def RtOk (K : PySem.W.Frag) (T F : Hp) (G : GD) (H : Hp) : Res → V → Prop
  | .sh d, v => Rep K F d v
  | .fr d, v => ∃ p, v = .ref p ∧ Own K F H p d ∧ F p = none ∧ G p = none ∧ T p = none
  | .pk _, _ => False
section
variable {K : PySem.W.Frag} {F0 T F : Hp} {G : GD} {H : Hp} {r : Env2} {σ : L2.St}
theorem Sta.slot (S : Sta K F0 T F G H r σ) {i : Nat} {d : D} (h : r[i]? = some (.sh d)) : ∃ v, σ[i]? = some (some v) ∧ Rep K F d v := S.sl i _ h
theorem Sta.ownS (S : Sta K F0 T F G H r σ) {i : Nat} {d : D} (h : r[i]? = some (.own d)) : ∃ p, σ[i]? = some (some (.ref p)) ∧ Own K F H p d ∧ F p = none ∧ G p = none ∧ T p = none := S.sl i _ h
theorem Bas.gh' (B : Bas K F0 T F G H) {a : Addr} {d : D} (h : G a = some d) : ∃ o, H a = some o := (B.gh a d h).there
theorem Bas.freshF (B : Bas K F0 T F G H) {p : Addr} (hp : H p = none) : F p = none ∧ G p = none ∧ T p = none := by
  refine ⟨?_, ?_, ?_⟩
  · cases e : F p with
    | none => rfl
    | some u => rw [B.fh p u e] at hp; cases hp
  · cases e : G p with
    | none => rfl
    | some u => obtain ⟨o, ho⟩ := B.gh' e; rw [ho] at hp; cases hp
  · cases e : T p with
    | none => rfl
    | some u => rw [B.tk p u e] at hp; cases hp
/-- the open objects, while F and H grow -/
theorem Bas.gmono (B : Bas K F0 T F G H) {F' H' : Hp} (ef : Ex F F') (eh : ∀ a o, G a ≠ none → H a = some o → H' a = some o) : ∀ a d, G a = some d → Own K F' H' a d := fun a d h =>
  (B.gh a d h).mono ef fun o ho => eh a o (by rw [h]; exact fun z => nomatch z) ho
/-- the frozen part grows by a new object, others keep -/
theorem Bas.newF (B : Bas K F0 T F G H) {p : Addr} {o : HO} (hp : H p = none) : Bas K F0 T (upd F p o) G (upd H p o) := by
  obtain ⟨fp, gp, tp⟩ := B.freshF hp
  refine ⟨B.ff.trans (Ex.new fp), fun a o' e => ?_, fun a o' e => ?_, B.gmono (Ex.new fp) fun a u _ h => Ex.new hp a u h, fun a o' e => ?_, B.gt, B.tk.trans (Ex.new hp)⟩
  · by_cases h : a = p
    · subst h; exact .inr tp
    · rw [upd_ne h] at e; exact B.ft a o' e
  · by_cases h : a = p
    · subst h; rw [upd_same] at e ⊢; exact e
    · rw [upd_ne h] at e ⊢; exact B.fh a o' e
  · by_cases h : a = p
    · subst h; rw [gp] at e; cases e
    · rw [upd_ne h]; exact B.fg a o' e
/-- a new object that is not frozen -/
theorem Bas.newH (B : Bas K F0 T F G H) {p : Addr} {o : HO} (hp : H p = none) : Bas K F0 T F G (upd H p o) :=
  ⟨B.ff, B.ft, B.fh.trans (Ex.new hp), B.gmono (Ex.refl _) fun a u _ h => Ex.new hp a u h, B.fg, B.gt, B.tk.trans (Ex.new hp)⟩
/-- an object that nobody else knows is written -/
theorem Bas.put (B : Bas K F0 T F G H) {p : Addr} {o : HO} (h1 : F p = none) (h2 : G p = none) (h3 : T p = none) : Bas K F0 T F G (upd H p o) := by
  refine ⟨B.ff, B.ft, fun a u e => ?_, B.gmono (Ex.refl _) fun a u hg e => ?_, B.fg, B.gt, fun a u e => ?_⟩
  · rw [upd_ne (ne_of_none e h1)]; exact B.fh a u e
  · rw [upd_ne (fun z => hg (by rw [z]; exact h2))]; exact e
  · rw [upd_ne (ne_of_none e h3)]; exact B.tk a u e
theorem Bas.frz (B : Bas K F0 T F G H) {p : Addr} {o : HO} (ho : H p = some o) (h1 : F p = none) (h2 : G p = none) (h3 : T p = none) : Bas K F0 T (upd F p o) G H := by
  refine ⟨B.ff.trans (Ex.new h1), fun a u e => ?_, fun a u e => ?_, B.gmono (Ex.new h1) fun _ _ _ h => h, fun a u e => ?_, B.gt, B.tk⟩
  · by_cases h : a = p
    · subst h; exact .inr h3
    · rw [upd_ne h] at e; exact B.ft a u e
  · by_cases h : a = p
    · subst h; rw [upd_same] at e; cases e; exact ho
    · rw [upd_ne h] at e; exact B.fh a u e
  · by_cases h : a = p
    · subst h; rw [h2] at e; cases e
    · rw [upd_ne h]; exact B.fg a u e
/-- the slots stand when F, H grow and the own objects keep -/
theorem Sta.grow {F' : Hp} {G' : GD} {H' : Hp} {F0' T' : Hp} (S : Sta K F0 T F G H r σ) (B : Bas K F0' T' F' G' H') (ef : Ex F F')
    (ko : ∀ p, F p = none → G p = none → T p = none → (∃ o, H p = some o) → (∀ o, H p = some o → H' p = some o) ∧ F' p = none ∧ G' p = none ∧ T' p = none) : Sta K F0' T' F' G' H' r σ := by
  refine ⟨B, S.len, fun i s e => ?_, S.ap⟩
  have h := S.sl i s e
  cases s with
  | no => trivial
  | sh d => obtain ⟨v, h1, h2⟩ := h; exact ⟨v, h1, Rep.mono ef _ _ h2⟩
  | own d =>
    obtain ⟨p, h1, h2, h3, h4, h5⟩ := h
    obtain ⟨k1, k2, k3, k4⟩ := ko p h3 h4 h5 h2.there
    exact ⟨p, h1, h2.mono ef k1, k2, k3, k4⟩
theorem Sta.newF (S : Sta K F0 T F G H r σ) {p : Addr} {o : HO} (hp : H p = none) : Sta K F0 T (upd F p o) G (upd H p o) r σ := by
  refine S.grow (S.bas.newF hp) (Ex.new (S.bas.freshF hp).1) fun q h1 h2 h3 ⟨u, hu⟩ => ?_
  have hq : q ≠ p := fun z => by subst z; rw [hp] at hu; cases hu
  exact ⟨fun o' e => by rw [upd_ne hq]; exact e, by rw [upd_ne hq]; exact h1, h2, h3⟩
theorem Sta.newH (S : Sta K F0 T F G H r σ) {p : Addr} {o : HO} (hp : H p = none) : Sta K F0 T F G (upd H p o) r σ := by
  refine S.grow (S.bas.newH hp) (Ex.refl _) fun q h1 h2 h3 ⟨u, hu⟩ => ?_
  have hq : q ≠ p := fun z => by subst z; rw [hp] at hu; cases hu
  exact ⟨fun o' e => by rw [upd_ne hq]; exact e, h1, h2, h3⟩
theorem Sta.freshR (S : Sta K F0 T F G H r σ) {p : Addr} (hp : H p = none) : ∀ (i : Nat) (e : D), r[i]? = some (.own e) → σ[i]? ≠ some (some (.ref p)) := fun i e he z => by
  obtain ⟨q, h1, h2, _⟩ := S.ownS he
  rw [z] at h1
  cases h1
  obtain ⟨o, ho⟩ := h2.there
  rw [hp] at ho; cases ho
/-- a slot is stored -/
theorem Sta.set (S : Sta K F0 T F G H r σ) {i : Nat} {s : Sl} {v : V} (hi : i < r.length) (h : SlotOk K T F G H s (some (some v))) (ha : ∀ d, s = .own d → ∀ (j : Nat) (e : D), r[j]? = some (.own e) → j ≠ i → σ[j]? ≠ some (some v)) : Sta K F0 T F G H (r.set i s) (σ.set i (some v)) := by
  have hiσ : i < σ.length := by rw [← S.len]; exact hi
  refine ⟨S.bas, by rw [List.length_set, List.length_set]; exact S.len, fun j s' e => ?_, fun j k d e hjk ej ek => ?_⟩
  · by_cases hj : i = j
    · subst hj
      rw [List.getElem?_set_self hi] at e
      cases e
      rw [List.getElem?_set_self hiσ]
      exact h
    · rw [List.getElem?_set_ne hj] at e ⊢
      exact S.sl j s' e
  · by_cases hj : i = j
    · subst hj
      rw [List.getElem?_set_self hi] at ej
      cases ej
      rw [List.getElem?_set_ne hjk] at ek
      rw [List.getElem?_set_self hiσ, List.getElem?_set_ne hjk]
      exact fun z => ha d rfl k e ek (Ne.symm hjk) z.symm
    · rw [List.getElem?_set_ne hj] at ej
      by_cases hk : i = k
      · subst hk
        rw [List.getElem?_set_self hi] at ek
        cases ek
        rw [List.getElem?_set_self hiσ, List.getElem?_set_ne hj]
        exact ha e rfl j d ej hjk
      · rw [List.getElem?_set_ne hk] at ek
        rw [List.getElem?_set_ne hj, List.getElem?_set_ne hk]
        exact S.ap j k d e hjk ej ek
/-- knowledge about slots is forgotten -/
inductive Wk : Env2 → Env2 → Prop
  | nil : Wk [] []
  | no {s : Sl} {a b : Env2} (h : Wk a b) : Wk (s :: a) (.no :: b)
  | eq {s : Sl} {a b : Env2} (h : Wk a b) : Wk (s :: a) (s :: b)
theorem Wk.get {a b : Env2} (w : Wk a b) : ∀ (i : Nat) (s : Sl), b[i]? = some s → s = .no ∨ a[i]? = some s := by
  induction w with
  | nil => intro i s h; simp at h
  | no _ ih =>
    intro i s h
    cases i with
    | zero => left; simpa using h.symm
    | succ i => simpa using ih i s (by simpa using h)
  | eq _ ih =>
    intro i s h
    cases i with
    | zero => right; simpa using h
    | succ i => simpa using ih i s (by simpa using h)
theorem Wk.len {a b : Env2} (w : Wk a b) : b.length = a.length := by
  induction w with
  | nil => rfl
  | no _ ih => simp [ih]
  | eq _ ih => simp [ih]
theorem Wk.refl : ∀ (a : Env2), Wk a a
  | [] => .nil
  | _ :: a => .eq (Wk.refl a)
theorem Sta.weak {r' : Env2} (S : Sta K F0 T F G H r σ) (w : Wk r r') : Sta K F0 T F G H r' σ := by
  refine ⟨S.bas, by rw [w.len]; exact S.len, fun i s e => ?_, fun i j d e hij ei ej => ?_⟩
  · rcases w.get i s e with z | z
    · subst z; trivial
    · exact S.sl i s z
  · rcases w.get i _ ei with z | z
    · cases z
    · rcases w.get j _ ej with y | y
      · cases y
      · exact S.ap i j d e hij z y
/-- an own slot is frozen -/
theorem Sta.frzSlot (S : Sta K F0 T F G H r σ) {i : Nat} {d : D} (hD : isDic d = false) (h : r[i]? = some (.own d)) : ∃ F', Ex F F' ∧ Sta K F0 T F' G H (r.set i (.sh d)) σ ∧ ∃ v, σ[i]? = some (some v) ∧ Rep K F' d v := by
  obtain ⟨p, h1, h2, h3, h4, h5⟩ := S.ownS h
  obtain ⟨o, ho⟩ := h2.there
  have hi : i < r.length := (List.getElem?_eq_some_iff.mp h).1
  have ef : Ex F (upd F p o) := Ex.new h3
  have rp : Rep K (upd F p o) d (.ref p) := by
    cases d with
    | lst ds =>
      obtain ⟨vs, q1, q2⟩ := h2
      rw [ho] at q1; cases q1
      exact ⟨p, vs, rfl, .inl upd_same, RepL.mono ef _ _ q2⟩
    | dic ks ds => cases hD
    | obj C ns ds => cases hD
    | slo C dx is ds => cases hD
    | xdo x b => cases hD
    | tab q => cases hD
    | kd w ks ds => cases hD
    | _ => exact h2.elim
  refine ⟨upd F p o, ef, ⟨S.bas.frz ho h3 h4 h5, by rw [List.length_set]; exact S.len, fun j s e => ?_, fun j k d' e' hjk ej ek => ?_⟩, .ref p, h1, rp⟩
  · by_cases hj : i = j
    · subst hj
      rw [List.getElem?_set_self hi] at e
      cases e
      exact ⟨_, h1, rp⟩
    · rw [List.getElem?_set_ne hj] at e
      have q := S.sl j s e
      cases s with
      | no => trivial
      | sh d' => obtain ⟨v, q1, q2⟩ := q; exact ⟨v, q1, Rep.mono ef _ _ q2⟩
      | own d' =>
        obtain ⟨p', q1, q2, q3, q4, q5⟩ := q
        have hpp : p' ≠ p := fun z => by
          subst z
          exact S.ap i j d d' hj h e (h1.trans q1.symm)
        exact ⟨p', q1, q2.mono ef fun _ z => z, by rw [upd_ne hpp]; exact q3, q4, q5⟩
  · have hj : i ≠ j := fun z => by
      subst z
      rw [List.getElem?_set_self hi] at ej; cases ej
    have hk : i ≠ k := fun z => by
      subst z
      rw [List.getElem?_set_self hi] at ek; cases ek
    rw [List.getElem?_set_ne hj] at ej
    rw [List.getElem?_set_ne hk] at ek
    exact S.ap j k d' e' hjk ej ek
/-- a fresh result is frozen -/
theorem Sta.frzRes (S : Sta K F0 T F G H r σ) {d : D} {v : V} (hD : isDic d = false) (h : ResOk K T F G H r σ (.fr d) v) : ∃ F', Ex F F' ∧ Sta K F0 T F' G H r σ ∧ Rep K F' d v := by
  obtain ⟨p, rfl, h2, h3, h4, h5, h6⟩ := h
  obtain ⟨o, ho⟩ := h2.there
  have ef : Ex F (upd F p o) := Ex.new h3
  have rp : Rep K (upd F p o) d (.ref p) := by
    cases d with
    | lst ds =>
      obtain ⟨vs, q1, q2⟩ := h2
      rw [ho] at q1; cases q1
      exact ⟨p, vs, rfl, .inl upd_same, RepL.mono ef _ _ q2⟩
    | dic ks ds => cases hD
    | obj C ns ds => cases hD
    | slo C dx is ds => cases hD
    | xdo x b => cases hD
    | tab q => cases hD
    | kd w ks ds => cases hD
    | _ => exact h2.elim
  refine ⟨upd F p o, ef, ⟨S.bas.frz ho h3 h4 h5, S.len, fun j s e => ?_, S.ap⟩, rp⟩
  have q := S.sl j s e
  cases s with
  | no => trivial
  | sh d' => obtain ⟨v, q1, q2⟩ := q; exact ⟨v, q1, Rep.mono ef _ _ q2⟩
  | own d' =>
    obtain ⟨p', q1, q2, q3, q4, q5⟩ := q
    have hpp : p' ≠ p := fun z => by
      subst z
      exact h6 j d' e q1
    exact ⟨p', q1, q2.mono ef fun _ z => z, by rw [upd_ne hpp]; exact q3, q4, q5⟩
/-- the view of a result -/
theorem Sta.view (S : Sta K F0 T F G H r σ) {x : Res} {v : V} {d : D} (h : ResOk K T F G H r σ x v) (e : vw r x = some d) : Vw K F H d v := by
  cases x with
  | sh d' => cases e; exact .inl h
  | fr d' =>
    have e' : (if isDic d' then none else some d') = some d := e
    split at e'
    · cases e'
    · cases e'; obtain ⟨p, h1, h2, _⟩ := h; exact .inr ⟨p, h1, h2⟩
  | pk i =>
    obtain ⟨h1, d', h2⟩ := h
    have e' : (match r[i]? with | some (.own d) => some d | some (.sh d) => some d | _ => none) = some d := e
    rw [h2] at e'
    cases e'
    obtain ⟨p, q1, q2, _⟩ := S.ownS h2
    rw [h1] at q1
    cases q1
    exact .inr ⟨p, rfl, q2⟩
theorem Sta.viewR (S : Sta K F0 T F G H r σ) {x : Res} {v : V} {d : D} (h : ResOk K T F G H r σ x v) (e : VwR r G x d) : Vw K F H d v := by
  rcases e with e | ⟨a, rfl, hG⟩
  · exact S.view h e
  · cases (show v = .ref a from h)
    exact .inr ⟨a, rfl, S.bas.gh _ _ hG⟩
end
def Run (X : Cx) (e : Expr) : TE := fun σ H Q => ∀ (pins : List (Addr × Obj)) (s : Shared), Inv X pins σ H s → wpAny (model X.prog X.w) X.A (eval e X.env) (EP X pins σ Q) X.xe s
def RunT (X : Cx) (e : Expr) : TT := fun σ H Q => ∀ (pins : List (Addr × Obj)) (s : Shared), Inv X pins σ H s → wpAny (model X.prog X.w) X.A (isTrue e X.env (eval e X.env)) (TP X pins σ Q) X.xe s
def RunW (X : Cx) (e : Expr) : TT := fun σ H Q => ∀ (whole : Sem Value) (pins : List (Addr × Obj)) (s : Shared), Inv X pins σ H s → wpAny (model X.prog X.w) X.A (isTrue e X.env whole) (TP X pins σ Q) X.xe s
def RunA (X : Cx) (es : List Expr) : TA := fun σ H Q => ∀ (pos : Pos) (pins : List (Addr × Obj)) (s : Shared), Inv X pins σ H s → wpAny (model X.prog X.w) X.A (spliced (backTo pos (starEach es X.env))) (AP X pins σ Q) X.xe s
def RunS (X : Cx) (st : Stmt) : TS := fun D σ H => ∀ (pins : List (Addr × Obj)) (s : Shared), Inv X pins σ H s → wpAny (model X.prog X.w) X.A (exec st X.env) (SP X pins D) X.xe s
def RunB (X : Cx) (st : List Stmt) : TS := fun D σ H => ∀ (pins : List (Addr × Obj)) (s : Shared), Inv X pins σ H s → wpAny (model X.prog X.w) X.A (execs st X.env) (SP X pins D) X.xe s
section
variable {X : Cx} {e : Expr} {es : List Expr} {st : Stmt} {sts : List Stmt} {σ : L2.St} {H : Hp}
theorem peR : PE X e (Run X e) := ⟨fun pins s _ _ _ I h => h pins s I⟩
theorem ptR : PT X e (RunT X e) := ⟨fun pins s _ _ _ I h => h pins s I⟩
theorem pwR : PW X e (RunW X e) := ⟨fun w pins s _ _ _ I h => h w pins s I⟩
theorem paR : PA X es (RunA X es) := ⟨fun pos pins s _ _ _ I h => h pos pins s I⟩
theorem psR : PS X st (RunS X st) := ⟨fun pins s _ _ _ I h => h pins s I⟩
theorem pbR : PSs X sts (RunB X sts) := ⟨fun pins s _ _ _ I h => h pins s I⟩
theorem Run.of {t : TE} {Q : VK} (h : PE X e t) (q : t σ H Q) : Run X e σ H Q := fun pins s I => h.run pins s σ H Q I q
theorem RunT.of {t : TT} {Q : Bool → Hp → Prop} (h : PT X e t) (q : t σ H Q) : RunT X e σ H Q := fun pins s I => h.run pins s σ H Q I q
theorem RunW.of {t : TT} {Q : Bool → Hp → Prop} (h : PW X e t) (q : t σ H Q) : RunW X e σ H Q := fun w pins s I => h.run w pins s σ H Q I q
theorem RunA.of {t : TA} {Q : List V → Hp → Prop} (h : PA X es t) (q : t σ H Q) : RunA X es σ H Q := fun pos pins s I => h.run pos pins s σ H Q I q
theorem RunS.of {t : TS} {D : Ends} (h : PS X st t) (q : t D σ H) : RunS X st D σ H := fun pins s I => h.run pins s σ H D I q
theorem RunB.of {t : TS} {D : Ends} (h : PSs X sts t) (q : t D σ H) : RunB X sts D σ H := fun pins s I => h.run pins s σ H D I q
theorem Run.mono {Q Q' : VK} (h : Run X e σ H Q) (k : ∀ v H', Q v H' → Q' v H') : Run X e σ H Q' := fun pins s I =>
  wpAny_mono (h pins s I) (fun _ _ ⟨v, H', I', r, q⟩ => ⟨v, H', I', r, k v H' q⟩) fun _ _ x => x
theorem RunT.mono {Q Q' : Bool → Hp → Prop} (h : RunT X e σ H Q) (k : ∀ v H', Q v H' → Q' v H') : RunT X e σ H Q' := fun pins s I =>
  wpAny_mono (h pins s I) (fun _ _ ⟨H', I', q⟩ => ⟨H', I', k _ H' q⟩) fun _ _ x => x
theorem RunA.mono {Q Q' : List V → Hp → Prop} (h : RunA X es σ H Q) (k : ∀ v H', Q v H' → Q' v H') : RunA X es σ H Q' := fun pos pins s I =>
  wpAny_mono (h pos pins s I) (fun _ _ ⟨vs, H', I', r, q⟩ => ⟨vs, H', I', r, k _ H' q⟩) fun _ _ x => x
theorem SP.mono {pins : List (Addr × Obj)} {D D' : Ends} {f : Flow} {s : Shared} (h : SP X pins D f s) (k1 : ∀ σ H, D.nx σ H → D'.nx σ H) (k2 : ∀ v H, D.rt v H → D'.rt v H) (k3 : ∀ σ H, D.bk σ H → D'.bk σ H) (k4 : ∀ σ H, D.ct σ H → D'.ct σ H) : SP X pins D' f s := by
  cases f with
  | next => obtain ⟨a, b, c, d⟩ := h; exact ⟨a, b, c, k1 _ _ d⟩
  | brk => obtain ⟨a, b, c, d⟩ := h; exact ⟨a, b, c, k3 _ _ d⟩
  | cont => obtain ⟨a, b, c, d⟩ := h; exact ⟨a, b, c, k4 _ _ d⟩
  | ret u => obtain ⟨v, a, b, c, r, d⟩ := h; exact ⟨v, a, b, c, r, k2 _ _ d⟩
theorem RunS.mono {D D' : Ends} (h : RunS X st D σ H) (k1 : ∀ σ H, D.nx σ H → D'.nx σ H) (k2 : ∀ v H, D.rt v H → D'.rt v H) (k3 : ∀ σ H, D.bk σ H → D'.bk σ H) (k4 : ∀ σ H, D.ct σ H → D'.ct σ H) : RunS X st D' σ H := fun pins s I =>
  wpAny_mono (h pins s I) (fun _ _ q => SP.mono q k1 k2 k3 k4) fun _ _ x => x
theorem RunB.mono {D D' : Ends} (h : RunB X sts D σ H) (k1 : ∀ σ H, D.nx σ H → D'.nx σ H) (k2 : ∀ v H, D.rt v H → D'.rt v H) (k3 : ∀ σ H, D.bk σ H → D'.bk σ H) (k4 : ∀ σ H, D.ct σ H → D'.ct σ H) : RunB X sts D' σ H := fun pins s I =>
  wpAny_mono (h pins s I) (fun _ _ q => SP.mono q k1 k2 k3 k4) fun _ _ x => x
end
structure Exn where
  cls : Value
  fs : List (Str × D)
structure Cy extends L2.Cx where
  F0 : Hp
  T : Hp
  QX : Exn → Env2 → GD → Prop
instance : Coe Cy L2.Cx := ⟨Cy.toCx⟩
instance : CoeHead Cy L2.Cx := ⟨Cy.toCx⟩
structure Lk (X : Cy) (F0 T : Hp) : Prop where
  t : Ex X.T T
  f : Ex X.F0 F0
  ft : ∀ a o, F0 a = some o → X.F0 a = some o ∨ X.T a = none
theorem none_of {A B : Hp} (e : Ex A B) {a : Addr} (h : B a = none) : A a = none := by
  cases q : A a with
  | none => rfl
  | some o => rw [e a o q] at h; cases h
theorem Lk.base {X : Cy} {F0 T F : Hp} {G : GD} {H : Hp} (lk : Lk X F0 T) (B : Bas X.K F0 T F G H) : Lk X F T :=
  ⟨lk.t, lk.f.trans B.ff, fun a o h => (B.ft a o h).elim (fun z => lk.ft a o z) fun z => .inr (none_of lk.t z)⟩
theorem Lk.ext {X : Cy} {F0 T T' : Hp} (lk : Lk X F0 T) (e : Ex T T') : Lk X F0 T' := ⟨lk.t.trans e, lk.f, lk.ft⟩
theorem Lk.bas {X : Cy} {K : PySem.W.Frag} {F0 T F : Hp} {G : GD} {H : Hp} (lk : Lk X F0 T) (B : Bas K F0 T F G H) : Bas K X.F0 X.T F G H :=
  ⟨lk.f.trans B.ff, fun a o h => (B.ft a o h).elim (fun z => lk.ft a o z) fun z => .inr (none_of lk.t z), B.fh, B.gh, B.fg, fun a o h => none_of lk.t (B.gt a o h), lk.t.trans B.tk⟩
theorem Lk.sta {X : Cy} {K : PySem.W.Frag} {F0 T F : Hp} {G : GD} {H : Hp} {r : Env2} {σ : L2.St} (lk : Lk X F0 T) (S : Sta K F0 T F G H r σ) : Sta K X.F0 X.T F G H r σ := by
  refine ⟨lk.bas S.bas, S.len, fun i s e => ?_, S.ap⟩
  have h := S.sl i s e
  cases s with
  | no => trivial
  | sh d => exact h
  | own d =>
    obtain ⟨p, h1, h2, h3, h4, h5⟩ := h
    exact ⟨p, h1, h2, h3, h4, none_of lk.t h5⟩
/-- an exception (its class, its dict) as data -/
def ExOk (K : PySem.W.Frag) (F : Hp) (cls : Value) (d : Option Addr) (x : Exn) : Prop :=
  x.cls = cls ∧ ((d = none ∧ x.fs = []) ∨ ∃ a vs, d = some a ∧ F a = some (.xd ((x.fs.map (·.1)).zip vs)) ∧ RepL K F (x.fs.map (·.2)) vs)
theorem ExOk.mono {K : PySem.W.Frag} {F F' : Hp} {cls : Value} {d : Option Addr} {x : Exn} (e : Ex F F') (h : ExOk K F cls d x) : ExOk K F' cls d x := by
  obtain ⟨h1, ⟨h2, h3⟩ | ⟨a, vs, h2, h3, h4⟩⟩ := h
  · exact ⟨h1, .inl ⟨h2, h3⟩⟩
  · exact ⟨h1, .inr ⟨a, vs, h2, e _ _ h3, RepL.mono e _ _ h4⟩⟩
/-- the wish of a context -/
def Cy.WX (X : Cy) : L2.WX := fun cls d σ H => ∃ r G F x, Sta X.K X.F0 X.T F G H r σ ∧ ExOk X.K F cls d x ∧ X.QX x r G
def Cy.Tk (X : Cy) : Prop := L2.Takes X.toCx X.WX
def PostE (K : PySem.W.Frag) (F0 T F : Hp) (σ : L2.St) (Q : Res → Env2 → GD → Prop) : VK := fun v H' =>
  ∃ x r' G' F', Ex F F' ∧ Sta K F0 T F' G' H' r' σ ∧ ResOk K T F' G' H' r' σ x v ∧ Q x r' G'
def WE (X : Cy) (e : Expr) (r : Env2) (G : GD) (Q : Res → Env2 → GD → Prop) : Prop :=
  ∀ (F0 T F H : Hp) (σ : L2.St), Lk X F0 T → Sta X.K F0 T F G H r σ → Run X e σ H (PostE X.K F0 T F σ Q)
def PostT (K : PySem.W.Frag) (F0 T F : Hp) (σ : L2.St) (Q : Bool → Env2 → GD → Prop) : Bool → Hp → Prop := fun b H' =>
  ∃ r' G' F', Ex F F' ∧ Sta K F0 T F' G' H' r' σ ∧ Q b r' G'
def WT (X : Cy) (e : Expr) (r : Env2) (G : GD) (Q : Bool → Env2 → GD → Prop) : Prop :=
  ∀ (F0 T F H : Hp) (σ : L2.St), Lk X F0 T → Sta X.K F0 T F G H r σ → RunT X e σ H (PostT X.K F0 T F σ Q)
def WW (X : Cy) (e : Expr) (r : Env2) (G : GD) (Q : Bool → Env2 → GD → Prop) : Prop :=
  ∀ (F0 T F H : Hp) (σ : L2.St), Lk X F0 T → Sta X.K F0 T F G H r σ → RunW X e σ H (PostT X.K F0 T F σ Q)
def PostA (K : PySem.W.Frag) (F0 T F : Hp) (σ : L2.St) (Q : List D → Env2 → GD → Prop) : List V → Hp → Prop := fun vs H' =>
  ∃ ds r' G' F', Ex F F' ∧ Sta K F0 T F' G' H' r' σ ∧ RepL K F' ds vs ∧ Q ds r' G'
def WA (X : Cy) (es : List Expr) (r : Env2) (G : GD) (Q : List D → Env2 → GD → Prop) : Prop :=
  ∀ (F0 T F H : Hp) (σ : L2.St), Lk X F0 T → Sta X.K F0 T F G H r σ → RunA X es σ H (PostA X.K F0 T F σ Q)
structure EndsD where
  nx : Env2 → GD → Prop
  rt : Res → GD → Prop
  bk : Env2 → GD → Prop := fun _ _ => False
  ct : Env2 → GD → Prop := fun _ _ => False
def PostN (K : PySem.W.Frag) (F0 T : Hp) (Q : Env2 → GD → Prop) : L2.St → Hp → Prop := fun σ' H' => ∃ r' G' F', Sta K F0 T F' G' H' r' σ' ∧ Q r' G'
def PostR (K : PySem.W.Frag) (F0 T : Hp) (Q : Res → GD → Prop) : VK := fun v H' => ∃ x G' F', Bas K F0 T F' G' H' ∧ RtOk K T F' G' H' x v ∧ Q x G'
def EndsD.at (K : PySem.W.Frag) (F0 T : Hp) (D : EndsD) : Ends := { nx := PostN K F0 T D.nx, rt := PostR K F0 T D.rt, bk := PostN K F0 T D.bk, ct := PostN K F0 T D.ct }
def WS (X : Cy) (st : Stmt) (r : Env2) (G : GD) (D : EndsD) : Prop :=
  ∀ (F0 T F H : Hp) (σ : L2.St), Lk X F0 T → Sta X.K F0 T F G H r σ → RunS X st (D.at X.K F0 T) σ H
def WB (X : Cy) (sts : List Stmt) (r : Env2) (G : GD) (D : EndsD) : Prop :=
  ∀ (F0 T F H : Hp) (σ : L2.St), Lk X F0 T → Sta X.K F0 T F G H r σ → RunB X sts (D.at X.K F0 T) σ H
/-- freezing a result -/
def fz (r : Env2) : Res → Option (D × Env2)
  | .sh d => some (d, r)
  | .fr d => if isDic d then none else some (d, r)
  | .pk i => match r[i]? with
    | some (.own d) => if isDic d then none else some (d, r.set i (.sh d))
    | _ => none
section
variable {X : Cy} {e a b c : Expr} {es : List Expr} {st : Stmt} {sts rest : List Stmt} {r : Env2} {G : GD} {pos : Pos}
theorem Sta.fz {K : PySem.W.Frag} {F0 T F : Hp} {G : GD} {H : Hp} {r r2 : Env2} {σ : L2.St} {x : Res} {v : V} {d : D} (S : Sta K F0 T F G H r σ) (h : ResOk K T F G H r σ x v) (e : fz r x = some (d, r2)) : ∃ F', Ex F F' ∧ Sta K F0 T F' G H r2 σ ∧ Rep K F' d v := by
  cases x with
  | sh d' => cases e; exact ⟨F, Ex.refl _, S, h⟩
  | fr d' =>
    have e' : (if isDic d' then none else some (d', r)) = some (d, r2) := e
    cases hD : isDic d' with
    | true => rw [hD] at e'; cases e'
    | false =>
      rw [hD] at e'
      cases e'
      exact S.frzRes hD h
  | pk i =>
    obtain ⟨h1, d', h2⟩ := h
    have e' : (match r[i]? with | some (.own d) => if isDic d then none else some (d, r.set i (.sh d)) | _ => none) = some (d, r2) := e
    rw [h2] at e'
    dsimp only at e'
    have hD : isDic d' = false := by
      cases hD : isDic d' with
      | true => rw [hD] at e'; cases e'
      | false => rfl
    rw [hD] at e'
    cases e'
    obtain ⟨F', k1, k2, v', k3, k4⟩ := S.frzSlot hD h2
    rw [h1] at k3
    cases k3
    exact ⟨F', k1, k2, k4⟩
theorem WE.mono {Q Q' : Res → Env2 → GD → Prop} (h : WE X e r G Q) (k : ∀ x r' G', Q x r' G' → Q' x r' G') : WE X e r G Q' := fun F0 T F H σ lk S =>
  (h F0 T F H σ lk S).mono fun _ _ ⟨x, r', G', F', a, b, c, q⟩ => ⟨x, r', G', F', a, b, c, k _ _ _ q⟩
theorem WT.mono {Q Q' : Bool → Env2 → GD → Prop} (h : WT X e r G Q) (k : ∀ x r' G', Q x r' G' → Q' x r' G') : WT X e r G Q' := fun F0 T F H σ lk S =>
  (h F0 T F H σ lk S).mono fun _ _ ⟨r', G', F', a, b, q⟩ => ⟨r', G', F', a, b, k _ _ _ q⟩
theorem WB.mono {D D' : EndsD} (h : WB X sts r G D) (k1 : ∀ r G, D.nx r G → D'.nx r G) (k2 : ∀ x G, D.rt x G → D'.rt x G) (k3 : ∀ r G, D.bk r G → D'.bk r G) (k4 : ∀ r G, D.ct r G → D'.ct r G) : WB X sts r G D' := fun F0 T F H σ lk S =>
  (h F0 T F H σ lk S).mono (fun _ _ ⟨r', G', F', a, q⟩ => ⟨r', G', F', a, k1 _ _ q⟩) (fun _ _ ⟨x, G', F', a, b, q⟩ => ⟨x, G', F', a, b, k2 _ _ q⟩) (fun _ _ ⟨r', G', F', a, q⟩ => ⟨r', G', F', a, k3 _ _ q⟩) (fun _ _ ⟨r', G', F', a, q⟩ => ⟨r', G', F', a, k4 _ _ q⟩)
theorem WB.weak {r' : Env2} {D : EndsD} (w : Wk r r') (h : WB X sts r' G D) : WB X sts r G D := fun F0 T F H σ lk S => h F0 T F H σ lk (S.weak w)
theorem we_const {v : V} {d : D} {Q : Res → Env2 → GD → Prop} (h : PE X e (tC v)) (hd : ∀ K F, Rep K F d v) (q : Q (.sh d) r G) : WE X e r G Q := fun F0 T F H σ lk S =>
  Run.of h ⟨.sh d, r, G, F, Ex.refl _, S, hd _ _, q⟩
theorem we_int {i : Int} {j} {Q : Res → Env2 → GD → Prop} (q : Q (.sh (.int i)) r G) : WE X (.Constant (.int i) j pos) r G Q := we_const (d := .int i) pe_int (fun _ _ => rfl) q
theorem we_bl {i : Bool} {j} {Q : Res → Env2 → GD → Prop} (q : Q (.sh (.bl i)) r G) : WE X (.Constant (.bool i) j pos) r G Q := we_const (d := .bl i) pe_bl (fun _ _ => rfl) q
theorem we_str {i : Str} {j} {Q : Res → Env2 → GD → Prop} (q : Q (.sh (.str i)) r G) : WE X (.Constant (.str i) j pos) r G Q := we_const (d := .str i) pe_str (fun _ _ => rfl) q
theorem we_non {j} {Q : Res → Env2 → GD → Prop} (q : Q (.sh .non) r G) : WE X (.Constant .none j pos) r G Q := we_const (d := .non) pe_non (fun _ _ => rfl) q
/-- what reading a slot gives -/
def rdS (r : Env2) (i : Nat) : Option Res := match r[i]? with
  | some (.sh d) => some (.sh d)
  | some (.own _) => some (.pk i)
  | _ => none
theorem we_var (i : Nat) {x : Str} {y : Res} {Q : Res → Env2 → GD → Prop} (hN : X.N[i]? = some x) (hv : Vis X.env.scope x) (hy : rdS r i = some y) (q : Q y r G) (hd : (x == ("__debug__" : Str)) = false := by decide) (hcd : (x == ("__classdict__" : Str)) = false := by decide) :
    WE X (.Name x pos) r G Q := fun F0 T F H σ lk S => by
  refine Run.of (pe_var hN hv hd hcd) ?_
  cases hr : r[i]? with
  | none => unfold rdS at hy; rw [hr] at hy; cases hy
  | some s =>
    unfold rdS at hy
    rw [hr] at hy
    cases s with
    | no => cases hy
    | sh d =>
      cases hy
      obtain ⟨v, h1, h2⟩ := S.slot hr
      exact ⟨v, h1, .sh d, r, G, F, Ex.refl _, S, h2, q⟩
    | own d =>
      cases hy
      obtain ⟨p, h1, h2⟩ := S.ownS hr
      exact ⟨.ref p, h1, .pk i, r, G, F, Ex.refl _, S, ⟨h1, d, hr⟩, q⟩
/-- a constant of the module -/
theorem we_globI {x : Str} {i : Int} {t : Tok} {Q : Res → Env2 → GD → Prop} (hg : Gl X x) (hm : X.mg x = some (.int i t)) (q : Q (.sh (.int i)) r G) (hd : (x == ("__debug__" : Str)) = false := by decide) : WE X (.Name x pos) r G Q := we_const (v := .int i) (d := .int i) (pe_glob hg hm ⟨t, rfl⟩ hd) (fun _ _ => rfl) q
theorem we_globS {x : Str} {i : Str} {t : Tok} {Q : Res → Env2 → GD → Prop} (hg : Gl X x) (hm : X.mg x = some (.str i t)) (q : Q (.sh (.str i)) r G) (hd : (x == ("__debug__" : Str)) = false := by decide) : WE X (.Name x pos) r G Q := we_const (v := .str i) (d := .str i) (pe_glob hg hm ⟨t, rfl⟩ hd) (fun _ _ => rfl) q
/-- a two-place operation on viewed data -/
def OpW (X : Cy) (f : Value → Value → Sem Value) (da db : D) (Q : Res → Prop) : Prop :=
  ∀ (F0 T F : Hp) (G : GD) (H : Hp) (r : Env2) (σ : L2.St) (va vb : V), Sta X.K F0 T F G H r σ → Vw X.K F H da va → Vw X.K F H db vb →
    ∃ rr : R2, OpR X f rr ∧ rr va vb H (fun v H' => ∃ x F', Ex F F' ∧ Sta X.K F0 T F' G H' r σ ∧ ResOk X.K T F' G H' r σ x v ∧ Q x)
def opU (X : Cy) (f : Value → Value → Sem Value) : R2 := fun x y H Q => ∃ rr : R2, OpR X f rr ∧ rr x y H Q
theorem opU_ok (f : Value → Value → Sem Value) : OpR X f (opU X f) := fun pins s σ H x y v u Q I rx ry ⟨rr, h1, h2⟩ => h1 pins s σ H x y v u Q I rx ry h2
/-- a held result, its view at a later state -/
theorem hold {K : PySem.W.Frag} {F0 T F : Hp} {G : GD} {H : Hp} {r : Env2} {σ : L2.St} {x : Res} {v : V} (S : Sta K F0 T F G H r σ) (h : ResOk K T F G H r σ x v) :
    ∃ F1, Ex F F1 ∧ Sta K F0 T F1 G H r σ ∧ ∀ (F2 : Hp) (G2 : GD) (H2 : Hp) (r2 : Env2) (d : D), Ex F1 F2 → Sta K F0 T F2 G2 H2 r2 σ → VwR r2 G2 x d → Vw K F2 H2 d v := by
  have red : ∀ (F2 : Hp) (G2 : GD) (H2 : Hp) (r2 : Env2) (d : D), Sta K F0 T F2 G2 H2 r2 σ → (vw r2 x = some d → Vw K F2 H2 d v) → VwR r2 G2 x d → Vw K F2 H2 d v := fun F2 G2 H2 r2 d S2 k e => by
    rcases e with e | ⟨a, rfl, hG⟩
    · exact k e
    · cases (show v = .ref a from h)
      exact .inr ⟨a, rfl, S2.bas.gh _ _ hG⟩
  cases x with
  | sh d => exact ⟨F, Ex.refl _, S, fun F2 G2 H2 r2 d' ex S2 e => red F2 G2 H2 r2 d' S2 (fun e => by cases e; exact .inl (Rep.mono ex _ _ h)) e⟩
  | fr d =>
    cases hD : isDic d with
    | true =>
      refine ⟨F, Ex.refl _, S, fun F2 G2 H2 r2 d' ex S2 e => red F2 G2 H2 r2 d' S2 (fun e => ?_) e⟩
      have e' : (if isDic d then none else some d) = some d' := e
      rw [hD] at e'; cases e'
    | false =>
      obtain ⟨F1, k1, k2, k3⟩ := S.frzRes hD h
      refine ⟨F1, k1, k2, fun F2 G2 H2 r2 d' ex S2 e => red F2 G2 H2 r2 d' S2 (fun e => ?_) e⟩
      have e' : (if isDic d then none else some d) = some d' := e
      rw [hD] at e'; cases e'
      exact .inl (Rep.mono ex _ _ k3)
  | pk i =>
    refine ⟨F, Ex.refl _, S, fun F2 G2 H2 r2 d' ex S2 e => red F2 G2 H2 r2 d' S2 (fun e => ?_) e⟩
    obtain ⟨h1, d, h2⟩ := h
    have e' : (match r2[i]? with | some (.own d) => some d | some (.sh d) => some d | _ => none) = some d' := e
    cases hr : r2[i]? with
    | none => rw [hr] at e'; cases e'
    | some s =>
      rw [hr] at e'
      cases s with
      | no => cases e'
      | sh d2 =>
        cases e'
        obtain ⟨v', q1, q2⟩ := S2.slot hr
        rw [h1] at q1; cases q1
        exact .inl q2
      | own d2 =>
        cases e'
        obtain ⟨p, q1, q2, _⟩ := S2.ownS hr
        rw [h1] at q1; cases q1
        exact .inr ⟨p, rfl, q2⟩
/-- two operands, then an operation -/
theorem two {f : Value → Value → Sem Value} {Q : Res → Env2 → GD → Prop} {F0 T F H : Hp} {σ : L2.St} (lk : Lk X F0 T) (S : Sta X.K F0 T F G H r σ)
    (h : WE X a r G fun x r1 G1 => WE X b r1 G1 fun y r2 G2 => ∃ da db, VwR r2 G2 x da ∧ VwR r2 G2 y db ∧ OpW X f da db fun z => Q z r2 G2) :
    tOp (opU X f) (Run X a) (Run X b) σ H (PostE X.K F0 T F σ Q) := by
  refine (h F0 T F H σ lk S).mono fun va H1 ⟨x, r1, G1, F1, e1, S1, k1, h1⟩ => ?_
  obtain ⟨F1', e1', S1', hv⟩ := hold S1 k1
  refine (h1 F0 T F1' H1 σ lk S1').mono fun vb H2 ⟨y, r2, G2, F2, e2, S2, k2, da, db, q1, q2, q3⟩ => ?_
  obtain ⟨rr, h3, h4⟩ := q3 F0 T F2 G2 H2 r2 σ va vb S2 (hv F2 G2 H2 r2 da e2 S2 q1) (S2.viewR k2 q2)
  have post : (fun v H' => ∃ z F', Ex F2 F' ∧ Sta X.K F0 T F' G2 H' r2 σ ∧ ResOk X.K T F' G2 H' r2 σ z v ∧ Q z r2 G2) = (fun v H' => ∃ z F', Ex F2 F' ∧ Sta X.K F0 T F' G2 H' r2 σ ∧ ResOk X.K T F' G2 H' r2 σ z v ∧ Q z r2 G2) := rfl
  refine ⟨fun u w H Q' => rr u w H (fun v H' => ∃ z F', Ex F2 F' ∧ Sta X.K F0 T F' G2 H' r2 σ ∧ ResOk X.K T F' G2 H' r2 σ z v ∧ Q z r2 G2) ∧ ∀ v H', (∃ z F', Ex F2 F' ∧ Sta X.K F0 T F' G2 H' r2 σ ∧ ResOk X.K T F' G2 H' r2 σ z v ∧ Q z r2 G2) → Q' v H', fun pins s σ H x y v u Q' I rx ry ⟨q, m⟩ => ?_, h4, fun v H' ⟨z, F', m1, m2, m3, m4⟩ => ⟨z, r2, G2, F', ((e1.trans e1').trans e2).trans m1, m2, m3, m4⟩⟩
  exact wpAny_mono (h3 pins s σ H x y v u _ I rx ry q) (fun _ _ ⟨v, H', I', rl, q⟩ => ⟨v, H', I', rl, m v H' q⟩) fun _ _ x => x
theorem we_bin {op : Operator} {Q : Res → Env2 → GD → Prop}
    (h : WE X a r G fun x r1 G1 => WE X b r1 G1 fun y r2 G2 => ∃ da db, VwR r2 G2 x da ∧ VwR r2 G2 y db ∧ OpW X (binaryOp op) da db fun z => Q z r2 G2) : WE X (.BinOp a op b pos) r G Q :=
  fun _ _ _ _ _ lk S => Run.of (pe_op (opU_ok _) peR peR) (two lk S h)
theorem we_cmp {op : CmpOp} {Q : Res → Env2 → GD → Prop} (hm : behindInMarks op b = false)
    (h : WE X a r G fun x r1 G1 => WE X b r1 G1 fun y r2 G2 => ∃ da db, VwR r2 G2 x da ∧ VwR r2 G2 y db ∧ OpW X (compareOp op) da db fun z => Q z r2 G2) : WE X (.Compare a [op] [b] pos) r G Q :=
  fun _ _ _ _ _ lk S => Run.of (pe_cmpR (opU_ok _) peR peR hm) (two lk S h)
/-- the result is a truth value -/
def isB (Q : Bool → Env2 → GD → Prop) : Res → Env2 → GD → Prop := fun x r G => ∃ c, x = .sh (.bl c) ∧ Q c r G
theorem postB {K : PySem.W.Frag} {F0 T F : Hp} {σ : L2.St} {Q : Bool → Env2 → GD → Prop} {v : V} {H' : Hp} (h : PostE K F0 T F σ (isB Q) v H') : ∃ c, v = .bl c ∧ PostT K F0 T F σ Q c H' := by
  obtain ⟨x, r', G', F', k1, k2, k3, c, rfl, k4⟩ := h
  exact ⟨c, k3, r', G', F', k1, k2, k4⟩
theorem wt_cmp {op : CmpOp} {Q : Bool → Env2 → GD → Prop} (hm : behindInMarks op b = false)
    (h : WE X a r G fun x r1 G1 => WE X b r1 G1 fun y r2 G2 => ∃ da db, VwR r2 G2 x da ∧ VwR r2 G2 y db ∧ OpW X (compareOp op) da db fun z => isB Q z r2 G2) : WT X (.Compare a [op] [b] pos) r G Q :=
  fun F0 T F H σ lk S => RunT.of (pt_cmpR (opU_ok _) peR peR hm) (by
    have q := two (Q := isB Q) lk S h
    refine Run.mono q fun va H1 q1 => Run.mono q1 fun vb H2 ⟨rr, h3, h4⟩ => ⟨fun u w H Q' => rr u w H (PostE X.K F0 T F σ (isB Q)) ∧ ∀ v H', PostE X.K F0 T F σ (isB Q) v H' → Q' v H', fun pins s σ H x y v u Q' I rx ry ⟨q, m⟩ => ?_, h4, fun v H' z => postB z⟩
    exact wpAny_mono (h3 pins s σ H x y v u _ I rx ry q) (fun _ _ ⟨v, H', I', rl, q⟩ => ⟨v, H', I', rl, m v H' q⟩) fun _ _ x => x)
/-- a value as a test -/
theorem wt_val {Q : Bool → Env2 → GD → Prop} (he : ∀ whole, isTrue e X.env whole = (do let v ← whole; standAt e.pos; holding [v] (truthy v))) (h : WE X e r G (isB Q)) : WT X e r G Q :=
  fun F0 T F H σ lk S => RunT.of (pt_val peR he) ((h F0 T F H σ lk S).mono fun v H' q => postB q)
theorem wt_not {Q : Bool → Env2 → GD → Prop} (h : WT X a r G fun c => Q (!c)) : WT X (.UnaryOp .Not a pos) r G Q :=
  fun F0 T F H σ lk S => RunT.of (pt_not ptR) (h F0 T F H σ lk S)
theorem wt_w {Q : Bool → Env2 → GD → Prop} (h : WW X e r G Q) : WT X e r G Q := fun F0 T F H σ lk S pins s I => h F0 T F H σ lk S _ pins s I
theorem ww_and1 {Q : Bool → Env2 → GD → Prop} (h : WT X a r G Q) : WW X (.BoolOp .And [a] pos) r G Q := fun F0 T F H σ lk S => RunW.of (pw_and1 ptR) (h F0 T F H σ lk S)
theorem ww_or1 {Q : Bool → Env2 → GD → Prop} (h : WT X a r G Q) : WW X (.BoolOp .Or [a] pos) r G Q := fun F0 T F H σ lk S => RunW.of (pw_or1 ptR) (h F0 T F H σ lk S)
theorem ww_and {Q : Bool → Env2 → GD → Prop} (h : WT X a r G fun c r1 G1 => (c = true → WW X (.BoolOp .And (b :: es) pos) r1 G1 Q) ∧ (c = false → Q false r1 G1)) : WW X (.BoolOp .And (a :: b :: es) pos) r G Q := fun F0 T F H σ lk S =>
  RunW.of (pw_and ptR pwR) ((h F0 T F H σ lk S).mono fun c H1 ⟨r1, G1, F1, e1, S1, q1, q2⟩ => by
    cases c with
    | true => rw [if_pos rfl]; exact fun w pins s I => wpAny_mono (q1 rfl F0 T F1 H1 σ lk S1 w pins s I) (fun _ _ ⟨H', I', r', G', F', k1, k2, k3⟩ => ⟨H', I', r', G', F', e1.trans k1, k2, k3⟩) fun _ _ x => x
    | false => rw [if_neg Bool.false_ne_true]; exact ⟨r1, G1, F1, e1, S1, q2 rfl⟩)
theorem ww_or {Q : Bool → Env2 → GD → Prop} (h : WT X a r G fun c r1 G1 => (c = false → WW X (.BoolOp .Or (b :: es) pos) r1 G1 Q) ∧ (c = true → Q true r1 G1)) : WW X (.BoolOp .Or (a :: b :: es) pos) r G Q := fun F0 T F H σ lk S =>
  RunW.of (pw_or ptR pwR) ((h F0 T F H σ lk S).mono fun c H1 ⟨r1, G1, F1, e1, S1, q1, q2⟩ => by
    cases c with
    | true => rw [if_pos rfl]; exact ⟨r1, G1, F1, e1, S1, q2 rfl⟩
    | false => rw [if_neg Bool.false_ne_true]; exact fun w pins s I => wpAny_mono (q1 rfl F0 T F1 H1 σ lk S1 w pins s I) (fun _ _ ⟨H', I', r', G', F', k1, k2, k3⟩ => ⟨H', I', r', G', F', e1.trans k1, k2, k3⟩) fun _ _ x => x)
/-- and, or, not as values (truth values) -/
theorem PostE.ext {K : PySem.W.Frag} {F0 T F F1 : Hp} {σ : L2.St} {Q : Res → Env2 → GD → Prop} (e : Ex F F1) {v : V} {H : Hp} (h : PostE K F0 T F1 σ Q v H) : PostE K F0 T F σ Q v H := by
  obtain ⟨x, r', G', F', k1, k2⟩ := h
  exact ⟨x, r', G', F', e.trans k1, k2⟩
theorem we_one {op} {Q : Res → Env2 → GD → Prop} (h : WE X a r G Q) : WE X (.BoolOp op [a] pos) r G Q := fun F0 T F H σ lk S => Run.of (pe_one peR) (h F0 T F H σ lk S)
theorem we_and {Q : Res → Env2 → GD → Prop} (h : WE X a r G (isB fun c r1 G1 => (c = true → WE X (.BoolOp .And (b :: es) pos) r1 G1 Q) ∧ (c = false → Q (.sh (.bl false)) r1 G1))) : WE X (.BoolOp .And (a :: b :: es) pos) r G Q := fun F0 T F H σ lk S =>
  Run.of (pe_and peR peR) ((h F0 T F H σ lk S).mono fun v H1 q => by
    obtain ⟨c, rfl, r1, G1, F1, e1, S1, q1, q2⟩ := postB q
    refine ⟨c, rfl, ?_⟩
    cases c with
    | true => rw [if_pos rfl]; exact (q1 rfl F0 T F1 H1 σ lk S1).mono fun _ _ z => z.ext e1
    | false => rw [if_neg Bool.false_ne_true]; exact ⟨.sh (.bl false), r1, G1, F1, e1, S1, rfl, q2 rfl⟩)
theorem we_not {Q : Res → Env2 → GD → Prop} (h : WE X a r G (isB fun c r1 G1 => Q (.sh (.bl (!c))) r1 G1)) : WE X (.UnaryOp .Not a pos) r G Q := fun F0 T F H σ lk S =>
  Run.of (pe_not peR) ((h F0 T F H σ lk S).mono fun v H1 q => by
    obtain ⟨c, rfl, r1, G1, F1, e1, S1, q1⟩ := postB q
    exact ⟨c, rfl, .sh (.bl (!c)), r1, G1, F1, e1, S1, rfl, q1⟩)
theorem we_ifExp {Q : Res → Env2 → GD → Prop} (h : WT X c r G fun d r1 G1 => (d = true → WE X a r1 G1 Q) ∧ (d = false → WE X b r1 G1 Q)) : WE X (.IfExp c a b pos) r G Q := fun F0 T F H σ lk S =>
  Run.of (pe_ifExp ptR peR peR) ((h F0 T F H σ lk S).mono fun d H1 ⟨r1, G1, F1, e1, S1, q1, q2⟩ => by
    cases d with
    | true => rw [if_pos rfl]; exact (q1 rfl F0 T F1 H1 σ lk S1).mono fun _ _ z => z.ext e1
    | false => rw [if_neg Bool.false_ne_true]; exact (q2 rfl F0 T F1 H1 σ lk S1).mono fun _ _ z => z.ext e1)
theorem wa_nil {Q : List D → Env2 → GD → Prop} (q : Q [] r G) : WA X [] r G Q := fun F0 T F H σ lk S => RunA.of pa_nil ⟨[], r, G, F, Ex.refl _, S, rfl, q⟩
theorem PostA.ext {K : PySem.W.Frag} {F0 T F F1 : Hp} {σ : L2.St} {Q : List D → Env2 → GD → Prop} (e : Ex F F1) {v : List V} {H : Hp} (h : PostA K F0 T F1 σ Q v H) : PostA K F0 T F σ Q v H := by
  obtain ⟨x, r', G', F', k1, k2⟩ := h
  exact ⟨x, r', G', F', e.trans k1, k2⟩
theorem wa_cons {Q : List D → Env2 → GD → Prop} (h : WE X e r G fun x r1 G1 => ∃ d r2, fz r1 x = some (d, r2) ∧ WA X es r2 G1 fun ds r3 G3 => Q (d :: ds) r3 G3)
    (hs : starEach (e :: es) X.env = (false, eval e X.env) :: starEach es X.env := by rfl) : WA X (e :: es) r G Q := fun F0 T F H σ lk S =>
  RunA.of (pa_cons peR paR hs) ((h F0 T F H σ lk S).mono fun v H1 ⟨x, r1, G1, F1, e1, S1, k1, d, r2, q1, q2⟩ => by
    obtain ⟨F2, e2, S2, rp⟩ := S1.fz k1 q1
    refine (q2 F0 T F2 H1 σ lk S2).mono fun vs H3 ⟨ds, r3, G3, F3, e3, S3, k3, q3⟩ => ?_
    exact ⟨d :: ds, r3, G3, F3, (e1.trans e2).trans e3, S3, ⟨v, vs, rfl, Rep.mono e3 _ _ rp, k3⟩, q3⟩)
/-- how many items a display may have -/
abbrev LIM : Nat := 16777216
theorem lim_ok {n : Nat} (h : n ≤ LIM) : n ≤ sizeLine := by rw [sizeLine_eq]; exact h
theorem lim_of {n : Nat} (h : n ≤ sizeLine) : n ≤ LIM := by rw [sizeLine_eq] at h; exact h
theorem lim_lt {n : Nat} (h : n < LIM) : n < sizeLine := by rw [sizeLine_eq]; exact h
/-- what lies in a heap is not too long -/
def BL (K : PySem.W.Frag) (H : Hp) : Prop := (∀ a xs, SqL K H a xs → xs.length ≤ LIM) ∧ (∀ a xs, SqT K H a xs → xs.length ≤ LIM) ∧ ∀ a kvs, Rd H a (.dK kvs) → kvs.length ≤ LIM
theorem bl_of {X : Cx} {pins : List (Addr × Obj)} {σ : L2.St} {H : Hp} {s : Shared} (I : Inv X pins σ H s) : BL X.K H := by
  refine ⟨fun a xs h => ?_, fun a xs h => ?_, fun a kvs h => ?_⟩
  · obtain ⟨_, _, _, z⟩ := I.list h
    exact lim_of z
  · obtain ⟨_, _, _, z⟩ := I.tuple h
    exact lim_of z
  · rcases h with h | ⟨o, h⟩
    · exact lim_of (I.hok _ _ h).1
    · exact lim_of (I.hok _ _ h).2.1
theorem Run.bl {X : Cx} {e : Expr} {σ : L2.St} {H : Hp} {Q : VK} (h : Run X e σ H Q) : Run X e σ H fun v H' => BL X.K H' ∧ Q v H' := fun pins s I =>
  wpAny_mono (h pins s I) (fun _ _ ⟨v, H', I', r, q⟩ => ⟨v, H', I', r, bl_of I', q⟩) fun _ _ x => x
theorem we_tup {k} {Q : Res → Env2 → GD → Prop} (h : WA X es r G fun ds r1 G1 => ds.length ≤ LIM ∧ Q (.sh (.tup ds)) r1 G1) : WE X (.Tuple es k pos) r G Q := fun F0 T F H σ lk S =>
  Run.of (pe_tup paR) ((h F0 T F H σ lk S).mono fun vs H1 ⟨ds, r1, G1, F1, e1, S1, k1, hl, q⟩ => ⟨by rw [k1.length]; exact lim_ok hl, fun p hp => by
    have ef : Ex F1 (upd F1 p (.tup vs)) := Ex.new (S1.bas.freshF hp).1
    exact ⟨.sh (.tup ds), r1, G1, upd F1 p (.tup vs), e1.trans ef, S1.newF hp, ⟨p, vs, rfl, .inl (.inl upd_same), RepL.mono ef _ _ k1⟩, q⟩⟩)
theorem we_lst {Q : Res → Env2 → GD → Prop} (h : WA X es r G fun ds r1 G1 => ds.length ≤ LIM ∧ Q (.fr (.lst ds)) r1 G1) : WE X (.List es pos) r G Q := fun F0 T F H σ lk S =>
  Run.of (pe_lst paR) ((h F0 T F H σ lk S).mono fun vs H1 ⟨ds, r1, G1, F1, e1, S1, k1, hl, q⟩ => ⟨by rw [k1.length]; exact lim_ok hl, fun p hp => by
    obtain ⟨h1, h2, h3⟩ := S1.bas.freshF hp
    exact ⟨.fr (.lst ds), r1, G1, F1, e1, S1.newH hp, ⟨p, rfl, ⟨vs, upd_same, k1⟩, h1, h2, h3, S1.freshR hp⟩, q⟩⟩)
end
section
variable {X : Cy} {e a b c : Expr} {es : List Expr} {st : Stmt} {sts rest : List Stmt} {r : Env2} {G : GD} {pos : Pos} {Q : Res → Prop}
theorem opw_flat {f : Value → Value → Sem Value} {da db d : D} {v : V} (hd : ∀ K F, Rep K F d v) (h : ∀ F H va vb, Ex F H → Vw X.K F H da va → Vw X.K F H db vb → ∃ rr, OpR X f rr ∧ ∀ P : VK, P v H → rr va vb H P) (q : Q (.sh d)) : OpW X f da db Q :=
  fun F0 T F G H r σ va vb S h1 h2 => by
    obtain ⟨rr, k1, k2⟩ := h F H va vb S.bas.fh h1 h2
    exact ⟨rr, k1, k2 _ ⟨.sh d, F, Ex.refl _, S, hd _ _, q⟩⟩
theorem opw_add {i j : Int} (q : Q (.sh (.int (i + j)))) : OpW X (binaryOp .Add) (.int i) (.int j) Q :=
  opw_flat (d := .int (i + j)) (v := .int (i + j)) (fun _ _ => rfl) (fun F H va vb _ h1 h2 => ⟨_, op_add, fun P p => ⟨i, j, h1.int, h2.int, p⟩⟩) q
theorem opw_sub {i j : Int} (q : Q (.sh (.int (i - j)))) : OpW X (binaryOp .Sub) (.int i) (.int j) Q :=
  opw_flat (d := .int (i - j)) (v := .int (i - j)) (fun _ _ => rfl) (fun F H va vb _ h1 h2 => ⟨_, op_sub, fun P p => ⟨i, j, h1.int, h2.int, p⟩⟩) q
theorem opw_mul {i j : Int} (hc : (-(2 ^ 64) < i ∧ i < 2 ^ 64) ∨ (-(2 ^ 64) < j ∧ j < 2 ^ 64)) (q : Q (.sh (.int (i * j)))) : OpW X (binaryOp .Mult) (.int i) (.int j) Q :=
  opw_flat (d := .int (i * j)) (v := .int (i * j)) (fun _ _ => rfl) (fun F H va vb _ h1 h2 => ⟨_, op_mul, fun P p => ⟨i, j, h1.int, h2.int, hc, p⟩⟩) q
theorem opw_fdiv {i j : Int} (hc : 0 < j ∧ j < 1073741824) (q : Q (.sh (.int (i / j)))) : OpW X (binaryOp .FloorDiv) (.int i) (.int j) Q :=
  opw_flat (d := .int (i / j)) (v := .int (i / j)) (fun _ _ => rfl) (fun F H va vb _ h1 h2 => ⟨_, op_fdiv, fun P p => ⟨i, j, h1.int, h2.int, hc, p⟩⟩) q
theorem opw_mod {i j : Int} (hc : 0 < j) (q : Q (.sh (.int (i % j)))) : OpW X (binaryOp .Mod) (.int i) (.int j) Q :=
  opw_flat (d := .int (i % j)) (v := .int (i % j)) (fun _ _ => rfl) (fun F H va vb _ h1 h2 => ⟨_, op_mod, fun P p => ⟨i, j, h1.int, h2.int, hc, p⟩⟩) q
theorem opw_pow {i j : Int} (hc : 0 ≤ j ∧ j ≤ 1000000 ∧ i.natAbs < 2 ^ 64) (q : Q (.sh (.int (i ^ j.toNat)))) : OpW X (binaryOp .Pow) (.int i) (.int j) Q :=
  opw_flat (d := .int (i ^ j.toNat)) (v := .int (i ^ j.toNat)) (fun _ _ => rfl) (fun F H va vb _ h1 h2 => ⟨_, op_pow, fun P p => ⟨i, j, h1.int, h2.int, hc, p⟩⟩) q
theorem opw_lt {i j : Int} (q : Q (.sh (.bl (decide (i < j))))) : OpW X (compareOp .Lt) (.int i) (.int j) Q :=
  opw_flat (d := .bl (decide (i < j))) (v := .bl (decide (i < j))) (fun _ _ => rfl) (fun F H va vb _ h1 h2 => ⟨_, op_lt, fun P p => ⟨i, j, h1.int, h2.int, p⟩⟩) q
theorem opw_le {i j : Int} (q : Q (.sh (.bl (decide (i ≤ j))))) : OpW X (compareOp .LtE) (.int i) (.int j) Q :=
  opw_flat (d := .bl (decide (i ≤ j))) (v := .bl (decide (i ≤ j))) (fun _ _ => rfl) (fun F H va vb _ h1 h2 => ⟨_, op_le, fun P p => ⟨i, j, h1.int, h2.int, p⟩⟩) q
theorem opw_ge {i j : Int} (q : Q (.sh (.bl (decide (j ≤ i))))) : OpW X (compareOp .GtE) (.int i) (.int j) Q :=
  opw_flat (d := .bl (decide (j ≤ i))) (v := .bl (decide (j ≤ i))) (fun _ _ => rfl) (fun F H va vb _ h1 h2 => ⟨_, op_ge, fun P p => ⟨i, j, h1.int, h2.int, p⟩⟩) q
theorem vint_eq (i j : Int) : decide (V.int i = V.int j) = decide (i = j) := by
  by_cases h : i = j
  · subst h; simp
  · simp [h]
theorem vstr_eq (i j : Str) : decide (V.str i = V.str j) = decide (i = j) := by
  by_cases h : i = j
  · subst h; simp
  · simp [h]
theorem vbl_eq (i j : Bool) : decide (V.bl i = V.bl j) = (i == j) := by cases i <;> cases j <;> decide
theorem opw_eqI {i j : Int} (q : Q (.sh (.bl (decide (i = j))))) : OpW X (compareOp .Eq) (.int i) (.int j) Q :=
  opw_flat (d := .bl (decide (i = j))) (v := .bl (decide (i = j))) (fun _ _ => rfl) (fun F H va vb _ h1 h2 => ⟨_, op_eq, fun P p => by cases h1.int; cases h2.int; exact ⟨rfl, by rw [vint_eq]; exact p⟩⟩) q
theorem opw_neI {i j : Int} (q : Q (.sh (.bl (!decide (i = j))))) : OpW X (compareOp .NotEq) (.int i) (.int j) Q :=
  opw_flat (d := .bl (!decide (i = j))) (v := .bl (!decide (i = j))) (fun _ _ => rfl) (fun F H va vb _ h1 h2 => ⟨_, op_ne, fun P p => by cases h1.int; cases h2.int; exact ⟨rfl, by rw [vint_eq]; exact p⟩⟩) q
theorem opw_eqS {i j : Str} (q : Q (.sh (.bl (decide (i = j))))) : OpW X (compareOp .Eq) (.str i) (.str j) Q :=
  opw_flat (d := .bl (decide (i = j))) (v := .bl (decide (i = j))) (fun _ _ => rfl) (fun F H va vb _ h1 h2 => ⟨_, op_eq, fun P p => by cases h1.str; cases h2.str; exact ⟨rfl, by rw [vstr_eq]; exact p⟩⟩) q
theorem opw_eqB {i j : Bool} (q : Q (.sh (.bl (i == j)))) : OpW X (compareOp .Eq) (.bl i) (.bl j) Q :=
  opw_flat (d := .bl (i == j)) (v := .bl (i == j)) (fun _ _ => rfl) (fun F H va vb _ h1 h2 => ⟨_, op_eq, fun P p => by cases h1.bl; cases h2.bl; exact ⟨rfl, by rw [vbl_eq]; exact p⟩⟩) q
theorem opw_neB {i j : Bool} (q : Q (.sh (.bl (!(i == j))))) : OpW X (compareOp .NotEq) (.bl i) (.bl j) Q :=
  opw_flat (d := .bl (!(i == j))) (v := .bl (!(i == j))) (fun _ _ => rfl) (fun F H va vb _ h1 h2 => ⟨_, op_ne, fun P p => by cases h1.bl; cases h2.bl; exact ⟨rfl, by rw [vbl_eq]; exact p⟩⟩) q
/-- is None -/
def isNon : D → Bool
  | .non => true
  | _ => false
theorem vw_non {K : PySem.W.Frag} {F H : Hp} {d : D} {v : V} (h : Vw K F H d v) : decide (v = .non) = isNon d := by
  rcases h with h | ⟨p, rfl, h⟩
  · cases d with
    | non => cases (show v = .non from h); rfl
    | bl b => cases (show v = .bl b from h); rfl
    | int b => cases (show v = .int b from h); rfl
    | str b => cases (show v = .str b from h); rfl
    | tup b => obtain ⟨a, vs, rfl, _⟩ := h; rfl
    | lst b => obtain ⟨a, vs, rfl, _⟩ := h; rfl
    | dic ks b => obtain ⟨a, o, vs, rfl, _⟩ := h; rfl
    | ins C b => obtain ⟨a, dx, vs, rfl, _⟩ := h; rfl
    | adr b => cases (show v = .ref b from h); rfl
    | obj _ _ _ => exact h.elim
    | slo _ _ _ _ => exact h.elim
    | xdo _ _ => exact h.elim
    | tab _ => exact h.elim
    | hob _ _ => obtain ⟨rfl, _⟩ := h; rfl
    | kd _ _ _ => obtain ⟨a, ob, es, rfl, _⟩ := h; rfl
    | scr ns => obtain ⟨a, rfl, _⟩ := h; rfl
  · cases d with
    | lst b => rfl
    | dic ks b => rfl
    | obj _ _ _ => rfl
    | slo _ _ _ _ => rfl
    | xdo _ _ => rfl
    | tab _ => rfl
    | kd _ _ _ => rfl
    | _ => exact h.elim
theorem opw_isN {d : D} (q : Q (.sh (.bl (isNon d)))) : OpW X (compareOp .Is) d .non Q :=
  opw_flat (d := .bl (isNon d)) (v := .bl (isNon d)) (fun _ _ => rfl) (fun F H va vb _ h1 h2 => ⟨_, op_isN, fun P p => ⟨h2.non, by rw [vw_non h1]; exact p⟩⟩) q
/-- lists and tuples joined -/
theorem lst_of {X : Cx} {pins : List (Addr × Obj)} {σ : L2.St} {H : Hp} {s : Shared} {a : Addr} {xs : List V} (I : Inv X pins σ H s) (h : Rd H a (.lst xs)) : xs.length ≤ sizeLine ∧ ∃ (its : List Value) (n : Nat), Vals xs its ∧ s.heap.get? a = some { cls := .type "list", data := .seq its.toArray n } := by
  rcases h with h | ⟨o, h⟩
  · exact I.hok _ _ h
  · exact (I.hok _ _ h).2
def rCatR : R2 := fun x y H Q => ∃ l b xs zs, x = .ref l ∧ y = .ref b ∧ Rd H l (.lst xs) ∧ Rd H b (.lst zs) ∧ xs.length + zs.length ≤ sizeLine ∧ ∀ p, H p = none → Q (.ref p) (upd H p (.lst (xs ++ zs)))
theorem op_catR {X : Cx} : OpR X (binaryOp .Add) rCatR := by
  intro pins s σ H x y v u Q I rx ry h
  obtain ⟨l, b, xs, zs, rfl, rfl, hH, hB, hz, q⟩ := h
  cases rx
  cases ry
  obtain ⟨z, its, n, r, e⟩ := lst_of I hH
  obtain ⟨z2, its2, n2, r2, e2⟩ := lst_of I hB
  have hl := r.length
  have hl2 := r2.length
  refine PySem.P.add_list e e2 ?_ (by rw [List.size_toArray, List.size_toArray]; omega)
  have ea : its.toArray ++ its2.toArray = (its ++ its2).toArray := by simp
  rw [ea]
  exact ⟨.ref _, _, I.lnew (t' := s.toks) (r.append r2) (by rw [List.length_append]; omega), rfl, q _ I.fresh⟩
theorem opw_cat {xs ys : List D} (hl : xs.length + ys.length ≤ LIM) (q : Q (.fr (.lst (xs ++ ys)))) : OpW X (binaryOp .Add) (.lst xs) (.lst ys) Q :=
  fun F0 T F G H r σ va vb S h1 h2 => by
    obtain ⟨p1, vs, rfl, k1, k2⟩ := h1.lst S.bas.fh
    obtain ⟨p2, us, rfl, k3, k4⟩ := h2.lst S.bas.fh
    exact ⟨_, op_catR, p1, p2, vs, us, rfl, rfl, k1, k3, by rw [k2.length, k4.length]; exact lim_ok hl, fun p hp => by
      obtain ⟨f1, f2, f3⟩ := S.bas.freshF hp
      exact ⟨.fr (.lst (xs ++ ys)), F, Ex.refl _, S.newH hp, ⟨p, rfl, ⟨vs ++ us, upd_same, k2.append k4⟩, f1, f2, f3, S.freshR hp⟩, q⟩⟩
mutual
def toP : D → PyData
  | .non => .none
  | .bl b => .bool b
  | .int i => .int i
  | .str x => .str x
  | .tup ds => .tuple (toPs ds)
  | .lst ds => .list (toPs ds)
  | _ => .none
def toPs : List D → List PyData
  | [] => []
  | d :: ds => toP d :: toPs ds
end
def okD : Nat → D → Prop
  | _, .non => True
  | _, .bl _ => True
  | _, .int _ => True
  | _, .str x => PyData.strOk x = true
  | n + 1, .tup ds => ∀ d ∈ ds, okD n d
  | n + 1, .lst ds => ∀ d ∈ ds, okD n d
  | _, _ => False
theorem okD.dp {K : PySem.W.Frag} {F H : Hp} (e : Ex F H) : ∀ (n : Nat) (d : D) (v : V), okD n d → Vw K F H d v → Dp K H v (toP d) := by
  have all : ∀ n, (∀ (d : D) (v : V), okD n d → Vw K F H d v → Dp K H v (toP d)) → ∀ (ds : List D) (vs : List V), (∀ d ∈ ds, okD n d) → RepL K F ds vs → DpAll K H vs (toPs ds) := by
    intro n ih ds
    induction ds with
    | nil => intro vs _ h; cases (show vs = [] from h); exact .nil
    | cons d ds ih2 =>
      intro vs hk h
      obtain ⟨v, r, rfl, h1, h2⟩ := h
      exact .cons (ih d v (hk d List.mem_cons_self) (.inl h1)) (ih2 r (fun x hx => hk x (List.mem_cons_of_mem _ hx)) h2)
  intro n
  induction n with
  | zero =>
    intro d v hk h
    cases d with
    | non => cases h.non; exact .non
    | bl b => cases h.bl; exact .bl b
    | int b => cases h.int; exact .int b
    | str b => cases h.str; exact .str b
    | _ => exact hk.elim
  | succ n ih =>
    intro d v hk h
    cases d with
    | non => cases h.non; exact .non
    | bl b => cases h.bl; exact .bl b
    | int b => cases h.int; exact .int b
    | str b => cases h.str; exact .str b
    | tup ds =>
      obtain ⟨a, vs, rfl, h1, h2⟩ := h.tup e
      exact .tup h1 (all n ih ds vs hk h2)
    | lst ds =>
      obtain ⟨a, vs, rfl, h1, h2⟩ := h.lst e
      exact .lst (.inl h1) (all n ih ds vs hk h2)
    | _ => exact hk.elim
theorem okD.dep : ∀ (n : Nat) (d : D), okD n d → (toP d).depth ≤ n := by
  have all : ∀ n, (∀ d, okD n d → (toP d).depth ≤ n) → ∀ ds : List D, (∀ d ∈ ds, okD n d) → PyData.depthAll (toPs ds) ≤ n := by
    intro n ih ds
    induction ds with
    | nil => intro _; exact Nat.zero_le _
    | cons d ds ih2 =>
      intro hk
      show max (PyData.depth (toP d)) (PyData.depthAll (toPs ds)) ≤ n
      exact Nat.max_le.mpr ⟨ih d (hk d List.mem_cons_self), ih2 fun x hx => hk x (List.mem_cons_of_mem _ hx)⟩
  intro n
  induction n with
  | zero =>
    intro d hk
    cases d with
    | str b => exact Nat.le_refl _
    | non => exact Nat.le_refl _
    | bl b => exact Nat.le_refl _
    | int b => exact Nat.le_refl _
    | _ => exact hk.elim
  | succ n ih =>
    intro d hk
    cases d with
    | str b => exact Nat.zero_le _
    | non => exact Nat.zero_le _
    | bl b => exact Nat.zero_le _
    | int b => exact Nat.zero_le _
    | tup ds => exact Nat.succ_le_succ (all n ih ds hk)
    | lst ds => exact Nat.succ_le_succ (all n ih ds hk)
    | _ => exact hk.elim
theorem okD.lay : ∀ (n : Nat) (d : D), okD n d → (toP d).canLay0 = true := by
  have all : ∀ n, (∀ d, okD n d → (toP d).canLay0 = true) → ∀ ds : List D, (∀ d ∈ ds, okD n d) → PyData.canLayAll0 (toPs ds) = true := by
    intro n ih ds
    induction ds with
    | nil => intro _; rfl
    | cons d ds ih2 =>
      intro hk
      show (PyData.canLay0 (toP d) && PyData.canLayAll0 (toPs ds)) = true
      rw [ih d (hk d List.mem_cons_self), ih2 fun x hx => hk x (List.mem_cons_of_mem _ hx)]; rfl
  intro n
  induction n with
  | zero =>
    intro d hk
    cases d with
    | str b => exact hk
    | non => rfl
    | bl b => rfl
    | int b => rfl
    | _ => exact hk.elim
  | succ n ih =>
    intro d hk
    cases d with
    | str b => exact hk
    | non => rfl
    | bl b => rfl
    | int b => rfl
    | tup ds => exact all n ih ds hk
    | lst ds => exact all n ih ds hk
    | _ => exact hk.elim
theorem okD.shaped {n : Nat} {d : D} (h : okD n d) (hn : n ≤ 64) : SeqAt.shaped (toP d) = true := by
  unfold SeqAt.shaped
  rw [okD.lay n d h, decide_eq_true (Nat.le_trans (okD.dep n d h) hn)]; rfl
def eqD (a b : D) : Bool := PyData.eqv (toP a) (toP b)
theorem opw_eqD {da db : D} {n : Nat} (hu : X.A.units + 64 < cLine) (h1 : okD n da) (h2 : okD n db) (hn : n ≤ 64) (q : Q (.sh (.bl (eqD da db)))) : OpW X (compareOp .Eq) da db Q :=
  opw_flat (d := .bl (eqD da db)) (v := .bl (eqD da db)) (fun _ _ => rfl) (fun F H va vb e k1 k2 => ⟨_, op_eqD hu, fun P p => ⟨_, _, okD.dp e n _ _ h1 k1, okD.dp e n _ _ h2 k2, h1.shaped hn, h2.shaped hn, p⟩⟩) q
theorem opw_neD {da db : D} {n : Nat} (hu : X.A.units + 64 < cLine) (h1 : okD n da) (h2 : okD n db) (hn : n ≤ 64) (q : Q (.sh (.bl (!eqD da db)))) : OpW X (compareOp .NotEq) da db Q :=
  opw_flat (d := .bl (!eqD da db)) (v := .bl (!eqD da db)) (fun _ _ => rfl) (fun F H va vb e k1 k2 => ⟨_, op_neD hu, fun P p => ⟨_, _, okD.dp e n _ _ h1 k1, okD.dp e n _ _ h2 k2, h1.shaped hn, h2.shaped hn, p⟩⟩) q
def IxW (X : Cy) (da db : D) (Q : Res → Prop) : Prop :=
  ∀ (F0 T F : Hp) (G : GD) (H : Hp) (r : Env2) (σ : L2.St) (va vb : V), Sta X.K F0 T F G H r σ → Vw X.K F H da va → Vw X.K F H db vb →
    ∃ rr : R2, IxR X rr ∧ rr va vb H (fun v H' => ∃ x F', Ex F F' ∧ Sta X.K F0 T F' G H' r σ ∧ ResOk X.K T F' G H' r σ x v ∧ Q x)
def ixU (X : Cy) : R2 := fun x y H Q => ∃ rr : R2, IxR X rr ∧ rr x y H Q
theorem ixU_ok : IxR X (ixU X) := fun value slice pins s σ H x y v u Q I rx ry ⟨rr, h1, h2⟩ hs => h1 value slice pins s σ H x y v u Q I rx ry h2 hs
theorem we_ix {Q : Res → Env2 → GD → Prop} (hp : PlainIx b)
    (h : WE X a r G fun x r1 G1 => WE X b r1 G1 fun y r2 G2 => ∃ da db, VwR r2 G2 x da ∧ VwR r2 G2 y db ∧ IxW X da db fun z => Q z r2 G2) : WE X (.Subscript a b pos) r G Q :=
  fun F0 T F H σ lk S => Run.of (pe_ix ixU_ok peR peR hp) (by
    refine (h F0 T F H σ lk S).mono fun va H1 ⟨x, r1, G1, F1, e1, S1, k1, h1⟩ => ?_
    obtain ⟨F1', e1', S1', hv⟩ := hold S1 k1
    refine (h1 F0 T F1' H1 σ lk S1').mono fun vb H2 ⟨y, r2, G2, F2, e2, S2, k2, da, db, q1, q2, q3⟩ => ?_
    obtain ⟨rr, h3, h4⟩ := q3 F0 T F2 G2 H2 r2 σ va vb S2 (hv F2 G2 H2 r2 da e2 S2 q1) (S2.viewR k2 q2)
    refine ⟨fun u w H Q' => rr u w H (fun v H' => ∃ z F', Ex F2 F' ∧ Sta X.K F0 T F' G2 H' r2 σ ∧ ResOk X.K T F' G2 H' r2 σ z v ∧ Q z r2 G2) ∧ ∀ v H', (∃ z F', Ex F2 F' ∧ Sta X.K F0 T F' G2 H' r2 σ ∧ ResOk X.K T F' G2 H' r2 σ z v ∧ Q z r2 G2) → Q' v H', fun value slice pins s σ H x y v u Q' I rx ry ⟨q, m⟩ hs => ?_, h4, fun v H' ⟨z, F', m1, m2, m3, m4⟩ => ⟨z, r2, G2, F', ((e1.trans e1').trans e2).trans m1, m2, m3, m4⟩⟩
    exact wpAny_mono (h3 value slice pins s σ H x y v u _ I rx ry q hs) (fun _ _ ⟨v, H', I', rl, q⟩ => ⟨v, H', I', rl, m v H' q⟩) fun _ _ x => x)
/-- an item by an index of any sign -/
def atD (xs : List D) (i : Int) : Option D := (ixN xs.length i).bind fun j => xs[j]?
theorem atD_get {K : PySem.W.Frag} {F : Hp} {xs : List D} {vs : List V} {i : Int} {d : D} (h : RepL K F xs vs) (e : atD xs i = some d) : ∃ v, atI vs i = some v ∧ Rep K F d v := by
  unfold atD at e
  unfold atI
  rw [h.length]
  cases hj : ixN xs.length i with
  | none => rw [hj] at e; cases e
  | some j =>
    rw [hj] at e
    exact h.get e
theorem ixw_lst {xs : List D} {i : Int} {d : D} (e : atD xs i = some d) (q : Q (.sh d)) : IxW X (.lst xs) (.int i) Q := fun F0 T F G H r σ va vb S h1 h2 => by
  obtain ⟨p, vs, rfl, k1, k2⟩ := h1.lst S.bas.fh
  cases h2.int
  obtain ⟨v, k3, k4⟩ := atD_get k2 e
  exact ⟨_, ix_list, p, vs, i, v, rfl, rfl, .inl k1, k3, .sh d, F, Ex.refl _, S, k4, q⟩
theorem ixw_tup {xs : List D} {i : Int} {d : D} (e : atD xs i = some d) (q : Q (.sh d)) : IxW X (.tup xs) (.int i) Q := fun F0 T F G H r σ va vb S h1 h2 => by
  obtain ⟨p, vs, rfl, k1, k2⟩ := h1.tup S.bas.fh
  cases h2.int
  obtain ⟨v, k3, k4⟩ := atD_get k2 e
  exact ⟨_, ix_tup, p, vs, i, v, rfl, rfl, k1, k3, .sh d, F, Ex.refl _, S, k4, q⟩
theorem atD_nat {xs : List D} {j : Nat} {d : D} (e : xs[j]? = some d) : atD xs (j : Int) = some d := by
  have hj := (List.getElem?_eq_some_iff.mp e).1
  unfold atD ixN
  rw [if_pos (by omega), if_pos (by omega)]
  simpa using e
/-- one operand -/
theorem we_un {op : UnaryOp} {Q : Res → Env2 → GD → Prop} (hop : op = .USub) (h : WE X a r G fun x r1 G1 => ∃ i, vw r1 x = some (.int i) ∧ Q (.sh (.int (-i))) r1 G1) : WE X (.UnaryOp op a pos) r G Q := fun F0 T F H σ lk S => by
  subst hop
  exact Run.of (pe_un un_neg peR) ((h F0 T F H σ lk S).mono fun va H1 ⟨x, r1, G1, F1, e1, S1, k1, i, h1, h2⟩ => ⟨i, (S1.view k1 h1).int, .sh (.int (-i)), r1, G1, F1, e1, S1, rfl, h2⟩)
end
inductive All2 {A B : Type} (R : A → B → Prop) : List A → List B → Prop
  | nil : All2 R [] []
  | cons {a : A} {b : B} {as : List A} {bs : List B} (h : R a b) (t : All2 R as bs) : All2 R (a :: as) (b :: bs)
section
variable {X : Cy} {e a b c o : Expr} {es : List Expr} {st : Stmt} {sts rest body orelse : List Stmt} {r : Env2} {G : GD} {pos : Pos} {D0 : EndsD}
theorem wb_nil (h : D0.nx r G) : WB X [] r G D0 := fun F0 T F H σ lk S => RunB.of pss_nil ⟨r, G, F, S, h⟩
theorem wb_cons (h : WS X st r G { D0 with nx := fun r1 G1 => WB X rest r1 G1 D0 }) : WB X (st :: rest) r G D0 := fun F0 T F H σ lk S =>
  RunB.of (pss_cons psR pbR) ((h F0 T F H σ lk S).mono (fun σ' H' ⟨r', G', F', S', q⟩ => q F0 T F' H' σ' lk S') (fun _ _ z => z) (fun _ _ z => z) (fun _ _ z => z))
/-- a block's state cut: what holds behind the first statement -/
theorem wb_cut (W : Env2 → GD → Prop) (h : WS X st r G { D0 with nx := W }) (k : ∀ r1 G1, W r1 G1 → WB X rest r1 G1 D0) : WB X (st :: rest) r G D0 := fun F0 T F H σ lk S =>
  RunB.of (pss_cons psR pbR) ((h F0 T F H σ lk S).mono (fun σ' H' ⟨r', G', F', S', q⟩ => k r' G' q F0 T F' H' σ' lk S') (fun _ _ z => z) (fun _ _ z => z) (fun _ _ z => z))
theorem ws_if (h : WT X c r G fun d r1 G1 => (d = true → WB X body r1 G1 D0) ∧ (d = false → WB X orelse r1 G1 D0)) : WS X (.If c body orelse pos) r G D0 := fun F0 T F H σ lk S =>
  RunS.of (ps_if ptR pbR pbR) ((h F0 T F H σ lk S).mono fun d H1 ⟨r1, G1, F1, e1, S1, q1, q2⟩ => by
    cases d with
    | true => rw [if_pos rfl]; exact q1 rfl F0 T F1 H1 σ lk S1
    | false => rw [if_neg Bool.false_ne_true]; exact q2 rfl F0 T F1 H1 σ lk S1)
theorem ws_expr (h : WE X e r G fun _ r1 G1 => D0.nx r1 G1) (hs : swapsWith e none pos.line X.env = pure false := by rfl) : WS X (.Expr e pos) r G D0 := fun F0 T F H σ lk S =>
  RunS.of (ps_expr peR hs) ((h F0 T F H σ lk S).mono fun v H1 ⟨x, r1, G1, F1, e1, S1, k1, q⟩ => ⟨r1, G1, F1, S1, q⟩)
/-- what is handed out -/
def rtS (r : Env2) : Res → Option Res
  | .sh d => some (.sh d)
  | .fr d => some (.fr d)
  | .pk i => match r[i]? with
    | some (.own d) => some (.fr d)
    | _ => none
theorem ws_ret (h : WE X e r G fun x r1 G1 => ∃ y, rtS r1 x = some y ∧ D0.rt y G1) : WS X (.Return (some e) pos) r G D0 := fun F0 T F H σ lk S =>
  RunS.of (ps_ret peR) ((h F0 T F H σ lk S).mono fun v H1 ⟨x, r1, G1, F1, e1, S1, k1, y, q1, q2⟩ => by
    refine ⟨y, G1, F1, S1.bas, ?_, q2⟩
    cases x with
    | sh d => cases q1; exact k1
    | fr d => cases q1; obtain ⟨p, z1, z2, z3, z4, z5, _⟩ := k1; exact ⟨p, z1, z2, z3, z4, z5⟩
    | pk i =>
      obtain ⟨h1, d, h2⟩ := k1
      have q1' : (match r1[i]? with | some (.own d) => some (Res.fr d) | _ => none) = some y := q1
      rw [h2] at q1'
      cases q1'
      obtain ⟨p, z1, z2, z3, z4, z5⟩ := S1.ownS h2
      rw [h1] at z1; cases z1
      exact ⟨p, rfl, z2, z3, z4, z5⟩)
def putS (r : Env2) (i : Nat) : Res → Option Env2
  | .sh d => some (r.set i (.sh d))
  | .fr d => some (r.set i (.own d))
  | .pk j => match r[j]? with
    | some (.own d) => if isDic d then none else some ((r.set j (.sh d)).set i (.sh d))
    | _ => none
theorem Sta.putS {K : PySem.W.Frag} {F0 T F : Hp} {G : GD} {H : Hp} {r r2 : Env2} {σ : L2.St} {x : Res} {v : V} {i : Nat} (S : Sta K F0 T F G H r σ) (h : ResOk K T F G H r σ x v) (hi : i < r.length) (e : putS r i x = some r2) : ∃ F', Ex F F' ∧ Sta K F0 T F' G H r2 (σ.set i (some v)) := by
  cases x with
  | sh d => cases e; exact ⟨F, Ex.refl _, S.set hi ⟨v, rfl, h⟩ fun d' z => nomatch z⟩
  | fr d =>
    cases e
    obtain ⟨p, z1, z2, z3, z4, z5, z6⟩ := h
    subst z1
    exact ⟨F, Ex.refl _, S.set hi ⟨p, rfl, z2, z3, z4, z5⟩ fun d' _ j e' he _ => z6 j e' he⟩
  | pk j =>
    obtain ⟨h1, d, h2⟩ := h
    have e' : (match r[j]? with | some (.own d) => if isDic d then none else some ((r.set j (.sh d)).set i (.sh d)) | _ => none) = some r2 := e
    rw [h2] at e'
    dsimp only at e'
    have hD : isDic d = false := by
      cases hD : isDic d with
      | true => rw [hD] at e'; cases e'
      | false => rfl
    rw [hD] at e'
    cases e'
    obtain ⟨F', k1, k2, v', k3, k4⟩ := S.frzSlot hD h2
    rw [h1] at k3; cases k3
    exact ⟨F', k1, k2.set (by rw [List.length_set]; exact hi) ⟨v, rfl, k4⟩ fun d' z => nomatch z⟩
theorem ws_set (i : Nat) {x : Str} {pos' : Pos} (hN : X.N.Nodup) (hi : X.N[i]? = some x) (hx : Loc X.env.scope x) (h : WE X e r G fun y r1 G1 => i < r1.length ∧ ∃ r2, putS r1 i y = some r2 ∧ D0.nx r2 G1)
    (hs : swapsWith e (some (.Name x pos')) pos.line X.env = pure false := by rfl) (hf : X.fn x = true ∨ X.env.scope.names.lookup x = some .local := by first | exact .inl rfl | exact .inr rfl | assumption) : WS X (.Assign [.Name x pos'] e pos) r G D0 := fun F0 T F H σ lk S =>
  RunS.of (ps_set hN hi hx peR hs hf) ((h F0 T F H σ lk S).mono fun v H1 ⟨y, r1, G1, F1, e1, S1, k1, hi', r2, q1, q2⟩ => by
    obtain ⟨F2, e2, S2⟩ := S1.putS k1 hi' q1
    exact ⟨r2, G1, F2, S2, q2⟩)
/-- targets: names in a row, from frozen data -/
theorem pgs_run : ∀ {tg : List Expr} {ixs : List Nat}, All2 (fun t i => PG X t (gName i)) tg ixs → (∀ t ∈ tg, ∀ ts, (assignEach (t :: ts) X.env).map (·.2) = assign t X.env :: (assignEach ts X.env).map (·.2)) →
    PGs X tg (fun vs σ H Q => vs.length = ixs.length ∧ Q ((ixs.zip vs).foldl (fun s p => s.set p.1 (some p.2)) σ) H)
  | [], [], .nil, _ => ⟨fun pins s σ H vs us Q I rv h => (pgs_nil (X := X)).run pins s σ H vs us Q I rv ⟨List.length_eq_zero_iff.mp h.1, by
      have e : vs = [] := List.length_eq_zero_iff.mp h.1
      subst e
      exact h.2⟩⟩
  | t :: tg, i :: ixs, .cons hp hr, hs => ⟨fun pins s σ H vs us Q I rv h => by
      obtain ⟨hl, q⟩ := h
      cases vs with
      | nil => simp at hl
      | cons v vs =>
        refine (pgs_cons hp (pgs_run hr fun t' ht => hs t' (List.mem_cons_of_mem _ ht)) (hs t List.mem_cons_self tg)).run pins s σ H (v :: vs) us Q I rv ⟨v, vs, rfl, ?_⟩
        exact ⟨by simpa using hl, q⟩⟩
def setAll (r : Env2) : List Nat → List D → Env2
  | i :: is, d :: ds => setAll (r.set i (.sh d)) is ds
  | _, _ => r
theorem Sta.setAll {K : PySem.W.Frag} {F0 T F : Hp} {G : GD} {H : Hp} : ∀ (is : List Nat) (ds : List D) (vs : List V) {r : Env2} {σ : L2.St}, Sta K F0 T F G H r σ → RepL K F ds vs → is.length = ds.length → (∀ i ∈ is, i < r.length) →
    Sta K F0 T F G H (setAll r is ds) ((is.zip vs).foldl (fun s p => s.set p.1 (some p.2)) σ)
  | [], [], vs, r, σ, S, h, _, _ => by
    unfold RB.setAll
    exact S
  | i :: is, d :: ds, vs, r, σ, S, h, hl, hi => by
    obtain ⟨v, vr, rfl, h1, h2⟩ := h
    unfold RB.setAll
    exact Sta.setAll is ds vr (S.set (hi i List.mem_cons_self) ⟨v, rfl, h1⟩ fun d' z => nomatch z) h2 (by simpa using hl) fun j hj => by rw [List.length_set]; exact hi j (List.mem_cons_of_mem _ hj)
  | [], d :: ds, vs, r, σ, S, h, hl, _ => by simp at hl
  | i :: is, [], vs, r, σ, S, h, hl, _ => by simp at hl
/-- a result that is no own slot -/
def nz (r : Env2) : Res → Option (Res × Env2)
  | .sh d => some (.sh d, r)
  | .fr d => some (.fr d, r)
  | .pk i => match r[i]? with
    | some (.own d) => if isDic d then none else some (.sh d, r.set i (.sh d))
    | _ => none
def slO : Res → Sl
  | .sh d => .sh d
  | .fr d => .own d
  | .pk _ => .no
theorem Sta.nz {K : PySem.W.Frag} {F0 T F : Hp} {G : GD} {H : Hp} {r r2 : Env2} {σ : L2.St} {x y : Res} {v : V} (S : Sta K F0 T F G H r σ) (h : ResOk K T F G H r σ x v) (e : nz r x = some (y, r2)) : ∃ F', Ex F F' ∧ Sta K F0 T F' G H r2 σ ∧ ResOk K T F' G H r2 σ y v ∧ ∀ i, y ≠ .pk i := by
  cases x with
  | sh d => cases e; exact ⟨F, Ex.refl _, S, h, fun i z => nomatch z⟩
  | fr d => cases e; exact ⟨F, Ex.refl _, S, h, fun i z => nomatch z⟩
  | pk i =>
    obtain ⟨h1, d, h2⟩ := h
    have e' : (match r[i]? with | some (.own d) => if isDic d then none else some (Res.sh d, r.set i (.sh d)) | _ => none) = some (y, r2) := e
    rw [h2] at e'
    dsimp only at e'
    have hD : isDic d = false := by
      cases hD : isDic d with
      | true => rw [hD] at e'; cases e'
      | false => rfl
    rw [hD] at e'
    cases e'
    obtain ⟨F', k1, k2, v', k3, k4⟩ := S.frzSlot hD h2
    rw [h1] at k3; cases k3
    exact ⟨F', k1, k2, k4, fun i z => nomatch z⟩
theorem holdT {K : PySem.W.Frag} {F0 T F : Hp} {G : GD} {H : Hp} {r : Env2} {σ : L2.St} {z : Res} {v : V} (S : Sta K F0 T F G H r σ) (h : ResOk K T F G H r σ z v) (hz : ∀ i, z ≠ .pk i) :
    ∃ T', Ex T T' ∧ Sta K F0 T' F G H r σ ∧ ∀ (F2 : Hp) (G2 : GD) (H2 : Hp) (r2 : Env2) (σ2 : L2.St), Ex F F2 → Sta K F0 T' F2 G2 H2 r2 σ2 → Sta K F0 T F2 G2 H2 r2 σ2 ∧ ResOk K T F2 G2 H2 r2 σ2 z v ∧
      ∀ (z2 : Res) (v2 : V), ResOk K T' F2 G2 H2 r2 σ2 z2 v2 → ResOk K T F2 G2 H2 r2 σ2 z2 v2 ∧ ∀ d d2, z = .fr d → z2 = .fr d2 → v ≠ v2 := by
  cases z with
  | pk i => exact absurd rfl (hz i)
  | sh d => exact ⟨T, Ex.refl _, S, fun F2 G2 H2 r2 σ2 ex S2 => ⟨S2, Rep.mono ex _ _ h, fun z2 v2 k => ⟨k, fun d d2 q => nomatch q⟩⟩⟩
  | fr d =>
    obtain ⟨p, rfl, z2, z3, z4, z5, z6⟩ := h
    obtain ⟨o, ho⟩ := z2.there
    refine ⟨upd T p o, Ex.new z5, ?_, ?_⟩
    · refine ⟨⟨S.bas.ff, fun q u hq => ?_, S.bas.fh, S.bas.gh, S.bas.fg, fun q u hq => ?_, fun q u hq => ?_⟩, S.len, fun i s hs => ?_, S.ap⟩
      · have hqp : q ≠ p := fun zz => by subst zz; rw [z3] at hq; cases hq
        rw [upd_ne hqp]
        exact S.bas.ft q u hq
      · have hqp : q ≠ p := fun zz => by subst zz; rw [z4] at hq; cases hq
        rw [upd_ne hqp]
        exact S.bas.gt q u hq
      · by_cases hqp : q = p
        · subst hqp; rw [upd_same] at hq; cases hq; exact ho
        · rw [upd_ne hqp] at hq; exact S.bas.tk q u hq
      · have hh := S.sl i s hs
        cases s with
        | no => trivial
        | sh d => exact hh
        | own d =>
          obtain ⟨p', y1, y2, y3, y4, y5⟩ := hh
          have hqp : p' ≠ p := fun zz => by subst zz; exact z6 i d hs y1
          exact ⟨p', y1, y2, y3, y4, by rw [upd_ne hqp]; exact y5⟩
    · intro F2 G2 H2 r2 σ2 ex S2
      have tsub : ∀ q u, T q = some u → upd T p o q = some u := fun q u hq => by
        have hqp : q ≠ p := fun zz => by subst zz; rw [z5] at hq; cases hq
        rw [upd_ne hqp]; exact hq
      have tdown : ∀ q, upd T p o q = none → T q = none := fun q hq => by
        cases hf : T q with
        | none => rfl
        | some u => rw [tsub q u hf] at hq; cases hq
      have tp : ∀ q, upd T p o q = none → q ≠ p := fun q hq zz => by subst zz; rw [upd_same] at hq; cases hq
      have fp : F2 p = none := by
        cases hf : F2 p with
        | none => rfl
        | some u =>
          rcases S2.bas.ft p u hf with zz | zz
          · have := S.bas.ff p u zz
            rw [z3] at this; cases this
          · exact absurd rfl (tp p zz)
      have gp : G2 p = none := by
        cases hf : G2 p with
        | none => rfl
        | some u => exact absurd rfl (tp p (S2.bas.gt p u hf))
      refine ⟨⟨⟨S2.bas.ff, fun q u hq => (S2.bas.ft q u hq).imp id (tdown q), S2.bas.fh, S2.bas.gh, S2.bas.fg, fun q u hq => tdown q (S2.bas.gt q u hq), fun q u hq => S2.bas.tk q u (tsub q u hq)⟩, S2.len, fun i s hs => ?_, S2.ap⟩, ⟨p, rfl, z2.mono ex fun u hu => by rw [ho] at hu; cases hu; exact S2.bas.tk p o upd_same, fp, gp, z5, fun k d' hk zz => ?_⟩, fun z2' v2 k => ?_⟩
      · have hh := S2.sl i s hs
        cases s with
        | no => trivial
        | sh d => exact hh
        | own d =>
          obtain ⟨p', k1, k2, k3, k4, k5⟩ := hh
          exact ⟨p', k1, k2, k3, k4, tdown p' k5⟩
      · obtain ⟨p', k1, _, _, _, k5⟩ := S2.ownS hk
        rw [zz] at k1; cases k1
        exact tp p k5 rfl
      · cases z2' with
        | sh d => exact ⟨k, fun d d2 _ q => nomatch q⟩
        | pk i => exact ⟨k, fun d d2 _ q => nomatch q⟩
        | fr d' =>
          obtain ⟨p2, rfl, k2, k3, k4, k5, k6⟩ := k
          exact ⟨⟨p2, rfl, k2, k3, k4, tdown p2 k5, k6⟩, fun _ _ _ _ zz => by cases zz; exact tp p k5 rfl⟩
/-- a held result goes to a slot -/
theorem Sta.setR {K : PySem.W.Frag} {F0 T F : Hp} {G : GD} {H : Hp} {r : Env2} {σ : L2.St} {z : Res} {v : V} {i : Nat} (S : Sta K F0 T F G H r σ) (h : ResOk K T F G H r σ z v) (hi : i < r.length) (hz : ∀ i, z ≠ .pk i) : Sta K F0 T F G H (r.set i (slO z)) (σ.set i (some v)) := by
  cases z with
  | pk j => exact absurd rfl (hz j)
  | sh d => exact S.set hi ⟨v, rfl, h⟩ fun d' z => nomatch z
  | fr d =>
    obtain ⟨p, rfl, z2, z3, z4, z5, z6⟩ := h
    exact S.set hi ⟨p, rfl, z2, z3, z4, z5⟩ fun d' _ j e' he _ => z6 j e' he
/-- .. and another held one stays good -/
theorem ResOk.setR {K : PySem.W.Frag} {T F : Hp} {G : GD} {H : Hp} {r : Env2} {σ : L2.St} {z z2 : Res} {v v2 : V} {i : Nat} (h2 : ResOk K T F G H r σ z2 v2) (hi : i < r.length) (hl : r.length = σ.length) (hz : ∀ i, z ≠ .pk i) (hz2 : ∀ i, z2 ≠ .pk i) (hd : ∀ d d2, z = .fr d → z2 = .fr d2 → v ≠ v2) :
    ResOk K T F G H (r.set i (slO z)) (σ.set i (some v)) z2 v2 := by
  cases z2 with
  | pk j => exact absurd rfl (hz2 j)
  | sh d => exact h2
  | fr d =>
    obtain ⟨p, rfl, k2, k3, k4, k5, k6⟩ := h2
    refine ⟨p, rfl, k2, k3, k4, k5, fun k e' he zz => ?_⟩
    by_cases hki : i = k
    · subst hki
      rw [List.getElem?_set_self hi] at he
      rw [List.getElem?_set_self (by rw [← hl]; exact hi)] at zz
      cases z with
      | pk j => exact hz j rfl
      | sh d' => cases he
      | fr d' => cases zz; exact hd d' d rfl rfl rfl
    · rw [List.getElem?_set_ne hki] at he zz
      exact k6 k e' he zz
/-- a, b = e1, e2 with local names -/
theorem ws_par (i j : Nat) {x y : Str} {px py pt : Pos} {kt k2 pt2} (hc : X.calm = true) (hN : X.N.Nodup) (hi : X.N[i]? = some x) (hj : X.N[j]? = some y) (hij : i ≠ j) (hx : X.env.scope.names.lookup x = some .local) (hy : X.env.scope.names.lookup y = some .local)
    (hw : swappedStores [.Tuple [.Name x px, .Name y py] kt pt] (.Tuple [a, b] k2 pt2) X.env = pure (some [x, y]))
    (h : WE X a r G fun z r1 G1 => ∃ z' r2, nz r1 z = some (z', r2) ∧ WE X b r2 G1 fun w r3 G3 => ∃ w' r4, nz r3 w = some (w', r4) ∧ i < r4.length ∧ j < r4.length ∧ D0.nx ((r4.set i (slO z')).set j (slO w')) G3)
    (hs : swapsWithSole [.Tuple [.Name x px, .Name y py] kt pt] (.Tuple [a, b] k2 pt2) pos.line X.env = pure false := by rfl)
    (h1 : starEach [a, b] X.env = (false, eval a X.env) :: starEach [b] X.env := by rfl) (h2 : starEach [b] X.env = (false, eval b X.env) :: starEach [] X.env := by rfl) :
    WS X (.Assign [.Tuple [.Name x px, .Name y py] kt pt] (.Tuple [a, b] k2 pt2) pos) r G D0 := fun F0 T F H σ lk S =>
  RunS.of (ps_par hc hN hi hj hij hx hy (pa_cons peR (pa_cons peR pa_nil h2) h1) hw hs) ((h F0 T F H σ lk S).mono fun v H1 ⟨z, r1, G1, F1, e1, S1, k1, z', r2, q1, q2⟩ => by
    obtain ⟨F2, e2, S2, k2, hz⟩ := S1.nz k1 q1
    obtain ⟨T', tx, S2', hold⟩ := holdT S2 k2 hz
    refine (q2 F0 T' F2 H1 σ (lk.ext tx) S2').mono fun w H3 ⟨u, r3, G3, F3, e3, S3, k3, w', r4, q3, hi', hj', q4⟩ => ?_
    obtain ⟨F4, e4, S4, k4, hz4⟩ := S3.nz k3 q3
    obtain ⟨S5, m1, m2⟩ := hold F4 G3 H3 r4 σ (e3.trans e4) S4
    obtain ⟨m3, m4⟩ := m2 w' w k4
    refine ⟨v, w, rfl, _, G3, F4, ?_, q4⟩
    exact (S5.setR m1 hi' hz).setR (m3.setR hi' S5.len hz hz4 m4) (by rw [List.length_set]; exact hj') hz4)
end
def isort (ns : List Int) : List Int := ns.mergeSort fun a b => decide (a ≤ b)
theorem isort_perm (ns : List Int) : (isort ns).Perm ns := List.mergeSort_perm ns _
theorem isort_sorted (ns : List Int) : (isort ns).Pairwise (· ≤ ·) := by
  have h := List.pairwise_mergeSort (le := fun a b : Int => decide (a ≤ b)) (fun a b c h1 h2 => by simp at *; omega) (fun a b => by simp; omega) ns
  exact h.imp fun h => by simpa using h
theorem sorted_unique : ∀ {xs ys : List Int}, xs.Perm ys → xs.Pairwise (· ≤ ·) → ys.Pairwise (· ≤ ·) → xs = ys := fun {xs ys} p h1 h2 =>
  List.Perm.eq_of_pairwise (le := (· ≤ ·)) (fun a b _ _ h h' => Int.le_antisymm h h') h1 h2 p
theorem isort_of {xs ys : List Int} (p : xs.Perm ys) (h : xs.Pairwise (· ≤ ·)) : xs = isort ys := sorted_unique (p.trans (isort_perm ys).symm) h (isort_sorted ys)
section
variable {X : Cy} {e a b c o : Expr} {es : List Expr} {st : Stmt} {sts rest body orelse : List Stmt} {r : Env2} {G : GD} {pos p0 : Pos} {D0 : EndsD} {Q : Res → Prop}
def CallW1 (X : Cy) (f : Value) (d : D) (Q : Res → Prop) : Prop :=
  ∀ (F0 T F : Hp) (G : GD) (H : Hp) (r : Env2) (σ : L2.St) (v : V), Sta X.K F0 T F G H r σ → Vw X.K F H d v →
    ∃ rr : List V → Hp → VK → Prop, CallR X f rr ∧ rr [v] H (fun v' H' => ∃ x F', Ex F F' ∧ Sta X.K F0 T F' G H' r σ ∧ ResOk X.K T F' G H' r σ x v' ∧ Q x)
def CallW2 (X : Cy) (f : Value) (da db : D) (Q : Res → Prop) : Prop :=
  ∀ (F0 T F : Hp) (G : GD) (H : Hp) (r : Env2) (σ : L2.St) (va vb : V), Sta X.K F0 T F G H r σ → Vw X.K F H da va → Vw X.K F H db vb →
    ∃ rr : List V → Hp → VK → Prop, CallR X f rr ∧ rr [va, vb] H (fun v' H' => ∃ x F', Ex F F' ∧ Sta X.K F0 T F' G H' r σ ∧ ResOk X.K T F' G H' r σ x v' ∧ Q x)
def callU (X : Cy) (f : Value) : List V → Hp → VK → Prop := fun vs H Q => ∃ rr : List V → Hp → VK → Prop, CallR X f rr ∧ rr vs H Q
theorem callU_ok (f : Value) : CallR X f (callU X f) := fun pins s σ H xs us Q I rv ⟨rr, h1, h2⟩ => h1 pins s σ H xs us Q I rv h2
theorem CallR.post {f : Value} {rr : List V → Hp → VK → Prop} (h : CallR X f rr) (P : VK) : CallR X f (fun vs H Q' => rr vs H P ∧ ∀ v H', P v H' → Q' v H') := fun pins s σ H xs us Q' I rv ⟨q, m⟩ =>
  wpAny_mono (h pins s σ H xs us P I rv q) (fun _ _ ⟨v, H', I', rl, q⟩ => ⟨v, H', I', rl, m v H' q⟩) fun _ _ x => x
theorem one1 {f : Value} {Q : Res → Env2 → GD → Prop} {F0 T F H : Hp} {σ : L2.St} (lk : Lk X F0 T) (S : Sta X.K F0 T F G H r σ) (h : WE X e r G fun x r1 G1 => ∃ d, VwR r1 G1 x d ∧ CallW1 X f d fun z => Q z r1 G1) :
    tCB (callU X f) (tCons (Run X e) tNil) σ H (PostE X.K F0 T F σ Q) := by
  refine (h F0 T F H σ lk S).mono fun v H1 ⟨x, r1, G1, F1, e1, S1, k1, d, q1, q2⟩ => ?_
  obtain ⟨rr, h3, h4⟩ := q2 F0 T F1 G1 H1 r1 σ v S1 (S1.viewR k1 q1)
  exact ⟨_, CallR.post h3 _, h4, fun v H' ⟨z, F', m1, m2, m3, m4⟩ => ⟨z, r1, G1, F', e1.trans m1, m2, m3, m4⟩⟩
theorem we_b1 {x : Str} {id : String} {Q : Res → Env2 → GD → Prop} (hg : Gl X x) (hm : X.mg x = none) (hv : bootBuiltins x = some (.builtin id)) (h : WE X e r G fun x r1 G1 => ∃ d, VwR r1 G1 x d ∧ CallW1 X (.builtin id) d fun z => Q z r1 G1)
    (hn : x ≠ "__name__" := by decide) (hdb : (x == ("__debug__" : Str)) = false := by decide) (he : starEach [e] X.env = (false, eval e X.env) :: starEach [] X.env := by rfl) (hpl : (backTo pos (starEach [] X.env)).any (·.1) = false := by rfl) :
    WE X (.Call (.Name x p0) [e] [] pos) r G Q := fun F0 T F H σ lk S => Run.of (pe_callB (callU_ok _) hg hm hv (pa_cons peR pa_nil he) hn hdb he hpl) (one1 lk S h)
theorem we_t1 {x : Str} {id : String} {Q : Res → Env2 → GD → Prop} (hg : Gl X x) (hm : X.mg x = none) (hv : bootBuiltins x = some (.type id)) (h : WE X e r G fun x r1 G1 => ∃ d, VwR r1 G1 x d ∧ CallW1 X (.type id) d fun z => Q z r1 G1)
    (hn : x ≠ "__name__" := by decide) (hdb : (x == ("__debug__" : Str)) = false := by decide) (he : starEach [e] X.env = (false, eval e X.env) :: starEach [] X.env := by rfl) (hpl : (backTo pos (starEach [] X.env)).any (·.1) = false := by rfl) :
    WE X (.Call (.Name x p0) [e] [] pos) r G Q := fun F0 T F H σ lk S => Run.of (pe_callTy (callU_ok _) hg hm hv (pa_cons peR pa_nil he) hn hdb he hpl) (one1 lk S h)
theorem two2 {f : Value} {Q : Res → Env2 → GD → Prop} {F0 T F H : Hp} {σ : L2.St} (lk : Lk X F0 T) (S : Sta X.K F0 T F G H r σ) (h : WE X a r G fun x r1 G1 => WE X b r1 G1 fun y r2 G2 => ∃ da db, VwR r2 G2 x da ∧ VwR r2 G2 y db ∧ CallW2 X f da db fun z => Q z r2 G2) :
    tCB (callU X f) (tCons (Run X a) (tCons (Run X b) tNil)) σ H (PostE X.K F0 T F σ Q) := by
  refine (h F0 T F H σ lk S).mono fun va H1 ⟨x, r1, G1, F1, e1, S1, k1, h1⟩ => ?_
  obtain ⟨F1', e1', S1', hv⟩ := hold S1 k1
  refine (h1 F0 T F1' H1 σ lk S1').mono fun vb H2 ⟨y, r2, G2, F2, e2, S2, k2, da, db, q1, q2, q3⟩ => ?_
  obtain ⟨rr, h3, h4⟩ := q3 F0 T F2 G2 H2 r2 σ va vb S2 (hv F2 G2 H2 r2 da e2 S2 q1) (S2.viewR k2 q2)
  exact ⟨_, CallR.post h3 _, h4, fun v H' ⟨z, F', m1, m2, m3, m4⟩ => ⟨z, r2, G2, F', ((e1.trans e1').trans e2).trans m1, m2, m3, m4⟩⟩
theorem we_b2 {x : Str} {id : String} {Q : Res → Env2 → GD → Prop} (hg : Gl X x) (hm : X.mg x = none) (hv : bootBuiltins x = some (.builtin id)) (h : WE X a r G fun x r1 G1 => WE X b r1 G1 fun y r2 G2 => ∃ da db, VwR r2 G2 x da ∧ VwR r2 G2 y db ∧ CallW2 X (.builtin id) da db fun z => Q z r2 G2)
    (hn : x ≠ "__name__" := by decide) (hdb : (x == ("__debug__" : Str)) = false := by decide) (he : starEach [a, b] X.env = (false, eval a X.env) :: starEach [b] X.env := by rfl) (he2 : starEach [b] X.env = (false, eval b X.env) :: starEach [] X.env := by rfl) (hpl : (backTo pos (starEach [b] X.env)).any (·.1) = false := by rfl) :
    WE X (.Call (.Name x p0) [a, b] [] pos) r G Q := fun F0 T F H σ lk S => Run.of (pe_callB (callU_ok _) hg hm hv (pa_cons peR (pa_cons peR pa_nil he2) he) hn hdb he hpl) (two2 lk S h)
theorem c1_flat {f : Value} {d d' : D} {v' : V} (hd : ∀ K F, Rep K F d' v') (h : ∀ F H v, Ex F H → Vw X.K F H d v → ∃ rr, CallR X f rr ∧ ∀ P : VK, P v' H → rr [v] H P) (q : Q (.sh d')) : CallW1 X f d Q :=
  fun F0 T F G H r σ v S h1 => by
    obtain ⟨rr, k1, k2⟩ := h F H v S.bas.fh h1
    exact ⟨rr, k1, k2 _ ⟨.sh d', F, Ex.refl _, S, hd _ _, q⟩⟩
theorem c2_flat {f : Value} {da db d' : D} {v' : V} (hd : ∀ K F, Rep K F d' v') (h : ∀ F H va vb, Ex F H → Vw X.K F H da va → Vw X.K F H db vb → ∃ rr, CallR X f rr ∧ ∀ P : VK, P v' H → rr [va, vb] H P) (q : Q (.sh d')) : CallW2 X f da db Q :=
  fun F0 T F G H r σ va vb S h1 h2 => by
    obtain ⟨rr, k1, k2⟩ := h F H va vb S.bas.fh h1 h2
    exact ⟨rr, k1, k2 _ ⟨.sh d', F, Ex.refl _, S, hd _ _, q⟩⟩
theorem c_len {ds : List D} (q : Q (.sh (.int (ds.length : Nat)))) : CallW1 X (.builtin "len") (.lst ds) Q :=
  c1_flat (d' := .int (ds.length : Nat)) (v' := .int (ds.length : Nat)) (fun _ _ => rfl) (fun F H v ex h => by
    obtain ⟨p, vs, rfl, k1, k2⟩ := h.lst ex
    exact ⟨_, call_len_seq, fun P hp => ⟨p, vs, rfl, .inl (.inl k1), by rw [k2.length]; exact hp⟩⟩) q
theorem c_lenT {ds : List D} (q : Q (.sh (.int (ds.length : Nat)))) : CallW1 X (.builtin "len") (.tup ds) Q :=
  c1_flat (d' := .int (ds.length : Nat)) (v' := .int (ds.length : Nat)) (fun _ _ => rfl) (fun F H v ex h => by
    obtain ⟨p, vs, rfl, k1, k2⟩ := h.tup ex
    exact ⟨_, call_len_seq, fun P hp => ⟨p, vs, rfl, .inr k1, by rw [k2.length]; exact hp⟩⟩) q
theorem c_int {i : Int} (q : Q (.sh (.int i))) : CallW1 X (.type "int") (.int i) Q :=
  c1_flat (d' := .int i) (v' := .int i) (fun _ _ => rfl) (fun F H v ex h => ⟨_, call_int1, fun P hp => .inl ⟨i, by rw [h.int], hp⟩⟩) q
theorem c_max2 {i j : Int} (hc : X.calm = true) (q : Q (.sh (.int (if j > i then j else i)))) : CallW2 X (.builtin "max") (.int i) (.int j) Q :=
  c2_flat (d' := .int (if j > i then j else i)) (v' := .int (if j > i then j else i)) (fun _ _ => rfl) (fun F H va vb ex h1 h2 => ⟨_, call_max2 hc, fun P hp => ⟨i, j, by rw [h1.int, h2.int], hp⟩⟩) q
/-- a new list, a new tuple as the result -/
theorem new_lst {K : PySem.W.Frag} {F0 T F : Hp} {G : GD} {H : Hp} {r : Env2} {σ : L2.St} (S : Sta K F0 T F G H r σ) {ds : List D} {vs : List V} (h : RepL K F ds vs) {p : Addr} (hp : H p = none) {Q : Res → Prop} (q : Q (.fr (.lst ds))) :
    ∃ x F', Ex F F' ∧ Sta K F0 T F' G (upd H p (.lst vs)) r σ ∧ ResOk K T F' G (upd H p (.lst vs)) r σ x (.ref p) ∧ Q x := by
  obtain ⟨f1, f2, f3⟩ := S.bas.freshF hp
  exact ⟨.fr (.lst ds), F, Ex.refl _, S.newH hp, ⟨p, rfl, ⟨vs, upd_same, h⟩, f1, f2, f3, S.freshR hp⟩, q⟩
theorem new_tup {K : PySem.W.Frag} {F0 T F : Hp} {G : GD} {H : Hp} {r : Env2} {σ : L2.St} (S : Sta K F0 T F G H r σ) {ds : List D} {vs : List V} (h : RepL K F ds vs) {p : Addr} (hp : H p = none) {Q : Res → Prop} (q : Q (.sh (.tup ds))) :
    ∃ x F', Ex F F' ∧ Sta K F0 T F' G (upd H p (.tup vs)) r σ ∧ ResOk K T F' G (upd H p (.tup vs)) r σ x (.ref p) ∧ Q x := by
  have ef : Ex F (upd F p (.tup vs)) := Ex.new (S.bas.freshF hp).1
  exact ⟨.sh (.tup ds), upd F p (.tup vs), ef, S.newF hp, ⟨p, vs, rfl, .inl (.inl upd_same), RepL.mono ef _ _ h⟩, q⟩
theorem c_list {ds : List D} (q : Q (.fr (.lst ds))) : CallW1 X (.type "list") (.lst ds) Q := fun F0 T F G H r σ v S h => by
  obtain ⟨p, vs, rfl, k1, k2⟩ := h.lst S.bas.fh
  exact ⟨_, call_list_of, p, vs, rfl, .inl (.inl k1), fun l hl => new_lst S k2 hl q⟩
theorem c_listT {ds : List D} (q : Q (.fr (.lst ds))) : CallW1 X (.type "list") (.tup ds) Q := fun F0 T F G H r σ v S h => by
  obtain ⟨p, vs, rfl, k1, k2⟩ := h.tup S.bas.fh
  exact ⟨_, call_list_of, p, vs, rfl, .inr k1, fun l hl => new_lst S k2 hl q⟩
theorem c_tuple {ds : List D} (q : Q (.sh (.tup ds))) : CallW1 X (.type "tuple") (.lst ds) Q := fun F0 T F G H r σ v S h => by
  obtain ⟨p, vs, rfl, k1, k2⟩ := h.lst S.bas.fh
  exact ⟨_, call_tuple_of, p, vs, rfl, .inl ⟨.inl k1, fun l hl => new_tup S k2 hl q⟩⟩
def cutD (xs : List D) (lo hi : Option Int) : List D := (xs.drop (HT.sIx xs.length 0 lo)).take (HT.sIx xs.length xs.length hi - HT.sIx xs.length 0 lo)
theorem cut_rep {K : PySem.W.Frag} {F : Hp} {ds : List D} {vs : List V} (h : RepL K F ds vs) (lo hi : Option Int) : RepL K F (cutD ds lo hi) (cutV vs lo hi) := by
  unfold cutD cutV
  rw [h.length]
  exact (h.drop _).take _
def RunO (X : Cy) (oe : Option Expr) : TO := fun σ H Q => ∀ (pins : List (Addr × Obj)) (s : Shared), Inv X pins σ H s → wpAny (model X.prog X.w) X.A (evalPart oe X.env) (fun u s' => ∃ o H', Inv X pins σ H' s' ∧ IsPart u o ∧ Q o H') X.xe s
theorem poR {oe : Option Expr} : PO X oe (RunO X oe) := ⟨fun pins s _ _ _ I h => h pins s I⟩
def WO (X : Cy) (oe : Option Expr) (r : Env2) (G : GD) (Q : Option Int → Env2 → GD → Prop) : Prop :=
  ∀ (F0 T F H : Hp) (σ : L2.St), Lk X F0 T → Sta X.K F0 T F G H r σ → RunO X oe σ H (fun o H' => ∃ r' G' F', Ex F F' ∧ Sta X.K F0 T F' G' H' r' σ ∧ Q o r' G')
theorem RunO.mono {oe : Option Expr} {σ : L2.St} {H : Hp} {Q Q' : Option Int → Hp → Prop} (h : RunO X oe σ H Q) (k : ∀ v H', Q v H' → Q' v H') : RunO X oe σ H Q' := fun pins s I =>
  wpAny_mono (h pins s I) (fun _ _ ⟨o, H', I', p, q⟩ => ⟨o, H', I', p, k _ H' q⟩) fun _ _ x => x
theorem wo_some {Q : Option Int → Env2 → GD → Prop} (h : WE X e r G fun x r1 G1 => ∃ i, vw r1 x = some (.int i) ∧ Q (some i) r1 G1) : WO X (some e) r G Q := fun F0 T F H σ lk S pins s I =>
  (po_some peR).run pins s σ H _ I ((h F0 T F H σ lk S).mono fun v H1 ⟨x, r1, G1, F1, e1, S1, k1, i, q1, q2⟩ => ⟨i, (S1.view k1 q1).int, r1, G1, F1, e1, S1, q2⟩)
def SlW (X : Cy) (d : D) (lo hi : Option Int) (Q : Res → Prop) : Prop :=
  ∀ (F0 T F : Hp) (G : GD) (H : Hp) (r : Env2) (σ : L2.St) (v : V), Sta X.K F0 T F G H r σ → Vw X.K F H d v →
    ∃ rr, L2.SlR X rr ∧ rr v lo hi H (fun v' H' => ∃ x F', Ex F F' ∧ Sta X.K F0 T F' G H' r σ ∧ ResOk X.K T F' G H' r σ x v' ∧ Q x)
def slU (X : Cy) : V → Option Int → Option Int → Hp → VK → Prop := fun x lo hi H Q => ∃ rr, L2.SlR X rr ∧ rr x lo hi H Q
theorem SlR.post {rr : V → Option Int → Option Int → Hp → VK → Prop} (h : L2.SlR X rr) (P : VK) : L2.SlR X (fun x lo hi H Q' => rr x lo hi H P ∧ ∀ v H', P v H' → Q' v H') := fun pins s σ H x v vl vu lo hi sl Q' I rx hs pl pu ⟨q, m⟩ => by
  obtain ⟨T, id, h1, h2, h3⟩ := h pins s σ H x v vl vu lo hi sl P I rx hs pl pu q
  exact ⟨T, id, h1, h2, wpAny_mono h3 (fun _ _ ⟨v, H', I', rl, q⟩ => ⟨v, H', I', rl, m v H' q⟩) fun _ _ x => x⟩
theorem slU_ok : L2.SlR X (slU X) := fun pins s σ H x v vl vu lo hi sl Q I rx hs pl pu ⟨rr, h1, h2⟩ => h1 pins s σ H x v vl vu lo hi sl Q I rx hs pl pu h2
theorem we_slice {lo hi : Option Expr} {p2 : Pos} {Q : Res → Env2 → GD → Prop} (h : WE X a r G fun x r1 G1 => WO X lo r1 G1 fun l r2 G2 => WO X hi r2 G2 fun u r3 G3 => ∃ d, VwR r3 G3 x d ∧ SlW X d l u fun z => Q z r3 G3) :
    WE X (.Subscript a (.Slice lo hi none p2) pos) r G Q := fun F0 T F H σ lk S => Run.of (pe_slice slU_ok peR poR poR) (by
  refine (h F0 T F H σ lk S).mono fun va H1 ⟨x, r1, G1, F1, e1, S1, k1, h1⟩ => ?_
  obtain ⟨F1', e1', S1', hv⟩ := hold S1 k1
  refine (h1 F0 T F1' H1 σ lk S1').mono fun l H2 ⟨r2, G2, F2, e2, S2, h2⟩ => ?_
  refine (h2 F0 T F2 H2 σ lk S2).mono fun u H3 ⟨r3, G3, F3, e3, S3, d, q1, q2⟩ => ?_
  obtain ⟨rr, h3, h4⟩ := q2 F0 T F3 G3 H3 r3 σ va S3 (hv F3 G3 H3 r3 d (e2.trans e3) S3 q1)
  exact ⟨_, SlR.post h3 _, h4, fun v H' ⟨z, F', m1, m2, m3, m4⟩ => ⟨z, r3, G3, F', (((e1.trans e1').trans e2).trans e3).trans m1, m2, m3, m4⟩⟩)
theorem slw_tup {ds : List D} {lo hi : Option Int} (q : Q (.sh (.tup (cutD ds lo hi)))) : SlW X (.tup ds) lo hi Q := fun F0 T F G H r σ v S h => by
  have rp : Rep X.K F (.tup ds) v := by
    rcases h with h | ⟨_, _, h⟩
    · exact h
    · exact h.elim
  obtain ⟨p, vs, rfl, k1, k2⟩ := h.tup S.bas.fh
  refine ⟨_, sl_tupA, p, vs, rfl, k1, fun hw => ?_, fun _ l hl => new_tup S (cut_rep k2 lo hi) hl q⟩
  have ec : cutD ds lo hi = ds := by
    unfold cutD
    rw [← k2.length, hw.1, hw.2]
    simp [k2.length]
  rw [ec] at q
  exact ⟨.sh (.tup ds), F, Ex.refl _, S, rp, q⟩
end
theorem Bas.base {F0 T F : Hp} {G : GD} {H : Hp} {K : PySem.W.Frag} (B : Bas K F0 T F G H) : Bas K F T F G H := ⟨Ex.refl _, fun _ _ h => .inl h, B.fh, B.gh, B.fg, B.gt, B.tk⟩
theorem Bas.back {F0 T F1 : Hp} {G1 : GD} {H1 F : Hp} {G : GD} {H : Hp} {K : PySem.W.Frag} (B : Bas K F0 T F1 G1 H1) (C : Bas K F1 T F G H) : Bas K F0 T F G H :=
  ⟨B.ff.trans C.ff, fun a o h => (C.ft a o h).elim (fun z => B.ft a o z) .inr, C.fh, C.gh, C.fg, C.gt, C.tk⟩
theorem Sta.base {K : PySem.W.Frag} {F0 T F : Hp} {G : GD} {H : Hp} {r : Env2} {σ : L2.St} (S : Sta K F0 T F G H r σ) : Sta K F T F G H r σ := ⟨S.bas.base, S.len, S.sl, S.ap⟩
theorem Sta.back {K : PySem.W.Frag} {F0 T F1 : Hp} {G1 : GD} {H1 F : Hp} {G : GD} {H : Hp} {r : Env2} {σ : L2.St} (B : Bas K F0 T F1 G1 H1) (S : Sta K F1 T F G H r σ) : Sta K F0 T F G H r σ := ⟨B.back S.bas, S.len, S.sl, S.ap⟩
theorem at_back {K : PySem.W.Frag} {F0 T F1 : Hp} {G1 : GD} {H1 : Hp} (B : Bas K F0 T F1 G1 H1) {Q : Env2 → GD → Prop} {σ : L2.St} {H : Hp} (h : PostN K F1 T Q σ H) : PostN K F0 T Q σ H := by
  obtain ⟨r, G, F, S, q⟩ := h
  exact ⟨r, G, F, S.back B, q⟩
theorem rt_back {K : PySem.W.Frag} {F0 T F1 : Hp} {G1 : GD} {H1 : Hp} (B : Bas K F0 T F1 G1 H1) {Q : Res → GD → Prop} {v : V} {H : Hp} (h : PostR K F1 T Q v H) : PostR K F0 T Q v H := by
  obtain ⟨x, G, F, C, k, q⟩ := h
  exact ⟨x, G, F, B.back C, k, q⟩
def RunG (X : Cx) (tg : Expr) : TG := fun v σ H Q => ∀ (pins : List (Addr × Obj)) (s : Shared) (u : Value), Inv X pins σ H s → RelV v u → wpAny (model X.prog X.w) X.A (assign tg X.env u) (fun _ s' => ∃ σ' H', Inv X pins σ' H' s' ∧ Q σ' H') X.xe s
theorem pgR {X : Cx} {tg : Expr} : PG X tg (RunG X tg) := ⟨fun pins s σ H v u Q I rv h => h pins s u I rv⟩
/-- frozen data goes to a target; σ' differs from σ in the slots is alone -/
def WG (X : Cy) (tg : Expr) (d : D) (r : Env2) (G : GD) (is : List Nat) (Q : Env2 → GD → Prop) : Prop :=
  ∀ (F0 T F H : Hp) (σ : L2.St) (v : V), Lk X F0 T → Sta X.K F0 T F G H r σ → Rep X.K F d v → RunG X tg v σ H (fun σ' H' => wipe σ' is = wipe σ is ∧ ∃ r' G' F', Ex F F' ∧ Sta X.K F0 T F' G' H' r' σ' ∧ Q r' G')
theorem wipe_set {σ : L2.St} {i : Nat} {x : Option V} : ∀ {is : List Nat}, i ∈ is → wipe (σ.set i x) is = wipe σ is
  | [], h => by simp at h
  | j :: is, h => by
    unfold wipe
    by_cases hm : i ∈ is
    · rw [wipe_set hm]
    · have hj : i = j := by
        rcases List.mem_cons.mp h with z | z
        · exact z
        · exact absurd z hm
      subst hj
      have aux : ∀ (is : List Nat), i ∉ is → wipe (σ.set i x) is = (wipe σ is).set i x := by
        intro is
        induction is with
        | nil => intro _; rfl
        | cons k is ih =>
          intro hk
          unfold wipe
          rw [ih (fun z => hk (List.mem_cons_of_mem _ z)), List.set_comm _ _ (fun z => hk (by rw [z]; exact List.mem_cons_self))]
      rw [aux is hm, List.set_set]
section
variable {X : Cy} {e a b c o tg : Expr} {es : List Expr} {st : Stmt} {sts rest body orelse : List Stmt} {r : Env2} {G : GD} {pos p0 : Pos} {D0 : EndsD}
theorem wg_name (i : Nat) {x : Str} {d : D} {is : List Nat} {Q : Env2 → GD → Prop} (hN : X.N.Nodup) (hi : X.N[i]? = some x) (hx : Loc X.env.scope x) (hm : i ∈ is) (hl : i < r.length) (q : Q (r.set i (.sh d)) G) (hf : X.fn x = true ∨ X.env.scope.names.lookup x = some .local := by first | exact .inl rfl | exact .inr rfl | assumption) :
    WG X (.Name x pos) d r G is Q := fun F0 T F H σ v lk S rp pins s u I rv => by
  refine (pg_name hN hi hx hf).run pins s σ H v u _ I rv ⟨wipe_set hm, r.set i (.sh d), G, F, Ex.refl _, S.set hl ⟨v, rfl, rp⟩ (fun d' z => nomatch z), q⟩
theorem fold_wipe : ∀ (ixs : List Nat) (vs : List V) (σ : L2.St) {is : List Nat}, (∀ i ∈ ixs, i ∈ is) → wipe ((ixs.zip vs).foldl (fun s p => s.set p.1 (some p.2)) σ) is = wipe σ is
  | [], _, _, _, _ => by simp
  | _ :: _, [], _, _, _ => by simp
  | i :: ixs, v :: vs, σ, is, h => by
    rw [List.zip_cons_cons, List.foldl_cons, fold_wipe ixs vs _ fun j hj => h j (List.mem_cons_of_mem _ hj)]
    exact wipe_set (h i List.mem_cons_self)
theorem wg_tup {ts : List Expr} {k : Nat} (ixs : List Nat) {ds : List D} {is : List Nat} {Q : Env2 → GD → Prop} (hc : X.calm = true) (hp : All2 (fun t i => PG X t (gName i)) ts ixs) (hst : ∀ t ∈ ts, ∀ us, (assignEach (t :: us) X.env).map (·.2) = assign t X.env :: (assignEach us X.env).map (·.2))
    (hm : ∀ i ∈ ixs, i ∈ is) (hl : ds.length = ixs.length) (hr : ∀ i ∈ ixs, i < r.length) (q : Q (setAll r ixs ds) G) (hn : (assignEach ts X.env).length = ixs.length := by rfl) (hf : (assignEach ts X.env).findIdx? (·.1) = none := by rfl) :
    WG X (.Tuple ts k pos) (.tup ds) r G is Q := fun F0 T F H σ v lk S rp pins s u I rv => by
  obtain ⟨a, vs, rfl, z1, z2⟩ := rp
  refine (pg_tup hc (pgs_run hp hst) hn hf).run pins s σ H _ u _ I rv ⟨a, vs, rfl, S.bas.fh.sqT z1, by rw [z2.length]; exact hl, by rw [z2.length]; exact hl, fold_wipe ixs vs σ hm, _, G, F, Ex.refl _, S.setAll ixs ds vs z2 hl.symm hr, q⟩
/-- a turn of a loop: the item goes to the target, the body runs -/
theorem turn1 {d : D} {v : V} {is : List Nat} {F0 T Fa : Hp} {Ga : GD} {Ha F H : Hp} {σ : L2.St} {I : Env2 → GD → Prop} (lk : Lk X F0 T) (B : Bas X.K F0 T Fa Ga Ha) (S : Sta X.K Fa T F G H r σ) (rp : Rep X.K F d v) (h : WG X tg d r G is fun r1 G1 => WB X body r1 G1 { D0 with nx := I, ct := I, bk := D0.nx }) {P : L2.St → Hp → Prop}
    (hP : ∀ σ' H', PostN X.K Fa T I σ' H' → P σ' H') : RunG X tg v σ H fun σ2 H2 => RunB X body { D0.at X.K F0 T with nx := P, ct := P, bk := (D0.at X.K F0 T).nx } σ2 H2 := fun pins s u J rv => by
  refine wpAny_mono (h Fa T F H σ v (lk.base B) S rp pins s u J rv) (fun _ s' ⟨σ', H', J', _, r', G', F', e', S', q⟩ => ⟨σ', H', J', ?_⟩) fun _ _ x => x
  exact (q Fa T F' H' σ' (lk.base B) S').mono hP (fun v H z => rt_back B z) (fun σ H z => at_back B z) hP
/-- J yields the data ds, while what is frozen at Fa stays -/
def ItD (K : PySem.W.Frag) (J : It) (Fa : Hp) (ds : List D) : Prop := ∀ (F H : Hp), Ex Fa F → Ex F H → J.stop ds.length H ∧ ∀ (i : Nat) (d : D), ds[i]? = some d → J.go i H ∧ ∀ x H', J.yld i H x H' →
  (H' = H ∧ Rep K F d x) ∨ ∃ p o, H p = none ∧ H' = upd H p o ∧ x = .ref p ∧ Rep K (upd F p o) d (.ref p)
theorem ItD.mono {K : PySem.W.Frag} {J : It} {F F' : Hp} {ds : List D} (e : Ex F F') (h : ItD K J F ds) : ItD K J F' ds := fun F2 H e1 e2 => h F2 H (e.trans e1) e2
/-- a yielded item, over a state -/
theorem ItD.item {K : PySem.W.Frag} {J : It} {Fa F0 T F : Hp} {G : GD} {H H' : Hp} {r : Env2} {σ : L2.St} {ds : List D} {i : Nat} {d : D} {x : V} (h : ItD K J Fa ds) (ea : Ex Fa F) (S : Sta K F0 T F G H r σ) (hi : ds[i]? = some d) (y : J.yld i H x H') :
    ∃ F', Ex F F' ∧ Sta K F0 T F' G H' r σ ∧ Rep K F' d x := by
  obtain ⟨_, h2⟩ := h F H ea S.bas.fh
  rcases (h2 i d hi).2 x H' y with ⟨rfl, rp⟩ | ⟨p, o, hp, rfl, rfl, rp⟩
  · exact ⟨F, Ex.refl _, S, rp⟩
  · exact ⟨upd F p o, Ex.new (S.bas.freshF hp).1, S.newF hp, rp⟩
def RunI (X : Cx) (tg e : Expr) : TI := fun σ H R => ∀ (pins : List (Addr × Obj)) (s : Shared), Inv X pins σ H s → wpAny (model X.prog X.w) X.A (eval e X.env) (fun v s1 => wpAny (model X.prog X.w) X.A (pyIter v) (PIE X pins σ tg R) X.xe s1) X.xe s
theorem piR {X : Cx} {tg e : Expr} : PI X tg e (RunI X tg e) := ⟨fun pins s _ _ _ I h => h pins s I⟩
theorem RunI.of {X : Cx} {tg e : Expr} {wi : TI} {σ : L2.St} {H : Hp} {R : It → Hp → Prop} (h : PI X tg e wi) (q : wi σ H R) : RunI X tg e σ H R := fun pins s I => h.run pins s σ H R I q
theorem RunI.mono {X : Cx} {tg e : Expr} {σ : L2.St} {H : Hp} {R R' : It → Hp → Prop} (h : RunI X tg e σ H R) (k : ∀ J H', R J H' → R' J H') : RunI X tg e σ H R' := fun pins s I =>
  wpAny_mono (h pins s I) (fun _ _ q => wpAny_mono q (fun _ _ ⟨it, fp, tn, J, H', a, b, c, d, e, f⟩ => ⟨it, fp, tn, J, H', a, b, c, d, e, k _ _ f⟩) fun _ _ x => x) fun _ _ x => x
/-- the iterable e yields data -/
def WI (X : Cy) (tg e : Expr) (r : Env2) (G : GD) (Q : List D → Env2 → GD → Prop) : Prop :=
  ∀ (F0 T F H : Hp) (σ : L2.St), Lk X F0 T → Sta X.K F0 T F G H r σ → RunI X tg e σ H fun J H' => ∃ ds r' G' F', Ex F F' ∧ Sta X.K F0 T F' G' H' r' σ ∧ ItD X.K J F' ds ∧ Q ds r' G'
theorem WI.mono {Q Q' : List D → Env2 → GD → Prop} (h : WI X tg e r G Q) (k : ∀ x r' G', Q x r' G' → Q' x r' G') : WI X tg e r G Q' := fun F0 T F H σ lk S =>
  (h F0 T F H σ lk S).mono fun _ _ ⟨x, r', G', F', a, b, c, q⟩ => ⟨x, r', G', F', a, b, c, k _ _ _ q⟩
theorem wi_lst {Q : List D → Env2 → GD → Prop} (h : WE X e r G fun x r1 G1 => ∃ ds r2, fz r1 x = some (.lst ds, r2) ∧ (ds.length ≤ LIM → Q ds r2 G1)) : WI X tg e r G Q := fun F0 T F H σ lk S =>
  RunI.of (pi_list peR) ((h F0 T F H σ lk S).bl.mono fun v H1 ⟨bl, x, r1, G1, F1, e1, S1, k1, ds, r2, q1, q2⟩ => by
    obtain ⟨Fa, e2, Sa, rp⟩ := S1.fz k1 q1
    obtain ⟨a, vs, rfl, z1, z2⟩ := rp
    have hlim : ds.length ≤ LIM := by rw [← z2.length]; exact bl.1 a vs (.inl (Sa.bas.fh.rd z1))
    refine ⟨a, rfl, ⟨vs, .inl (Sa.bas.fh.rd z1)⟩, ds, r2, G1, Fa, e1.trans e2, Sa, fun F H ea eh => ⟨⟨vs, .inl (eh.rd (ea.rd z1)), by rw [z2.length]; exact Nat.le_refl _⟩, fun i d hi => ?_⟩, q2 hlim⟩
    obtain ⟨v, h1, h2⟩ := z2.get hi
    exact ⟨⟨vs, v, .inl (eh.rd (ea.rd z1)), h1⟩, fun x H' ⟨y1, y2⟩ => .inl ⟨y1, by
      have := y2 vs (.inl (eh.rd (ea.rd z1)))
      rw [h1] at this; cases this
      exact Rep.mono ea _ _ h2⟩⟩)
theorem wi_tup {Q : List D → Env2 → GD → Prop} (h : WE X e r G fun x r1 G1 => ∃ ds r2, fz r1 x = some (.tup ds, r2) ∧ (ds.length ≤ LIM → Q ds r2 G1)) : WI X tg e r G Q := fun F0 T F H σ lk S =>
  RunI.of (pi_tup peR) ((h F0 T F H σ lk S).bl.mono fun v H1 ⟨bl, x, r1, G1, F1, e1, S1, k1, ds, r2, q1, q2⟩ => by
    obtain ⟨Fa, e2, Sa, rp⟩ := S1.fz k1 q1
    obtain ⟨a, vs, rfl, z1, z2⟩ := rp
    have hlim : ds.length ≤ LIM := by rw [← z2.length]; exact bl.2.1 a vs (Sa.bas.fh.sqT z1)
    refine ⟨a, rfl, ⟨vs, Sa.bas.fh.sqT z1⟩, ds, r2, G1, Fa, e1.trans e2, Sa, fun F H ea eh => ⟨⟨vs, eh.sqT (ea.sqT z1), by rw [z2.length]; exact Nat.le_refl _⟩, fun i d hi => ?_⟩, q2 hlim⟩
    obtain ⟨v, h1, h2⟩ := z2.get hi
    exact ⟨⟨vs, v, eh.sqT (ea.sqT z1), h1⟩, fun x H' ⟨y1, y2⟩ => .inl ⟨y1, by
      have := y2 vs (eh.sqT (ea.sqT z1))
      rw [h1] at this; cases this
      exact Rep.mono ea _ _ h2⟩⟩)
def rgI (a b : Int) : List Int := (List.range (b - a).toNat).map fun i => a + (i : Nat)
theorem rgI_length (a b : Int) : (rgI a b).length = (b - a).toNat := by unfold rgI; rw [List.length_map, List.length_range]
theorem rgI_get {a b : Int} {i : Nat} {x : Int} (h : (rgI a b)[i]? = some x) : i < (b - a).toNat ∧ x = a + (i : Nat) := by
  unfold rgI at h
  rw [List.getElem?_map] at h
  cases q : (List.range (b - a).toNat)[i]? with
  | none => rw [q] at h; cases h
  | some j =>
    rw [q] at h
    obtain ⟨z1, z2⟩ := List.getElem?_eq_some_iff.mp q
    rw [List.length_range] at z1
    rw [List.getElem_range] at z2
    subst z2
    exact ⟨z1, by simpa using h.symm⟩
theorem itd_range {K : PySem.W.Frag} {Fa : Hp} {lo hi : Int} {n : Nat} (hn : n = (hi - lo).toNat) : ItD K (Itr lo n) Fa ((rgI lo hi).map D.int) := fun F H ea eh =>
  ⟨by rw [List.length_map, rgI_length, ← hn]; exact Nat.le_refl _, fun i d hd => by
    rw [List.getElem?_map] at hd
    cases q : (rgI lo hi)[i]? with
    | none => rw [q] at hd; cases hd
    | some x =>
      rw [q] at hd
      obtain ⟨z1, rfl⟩ := rgI_get q
      cases hd
      exact ⟨by rw [hn]; exact z1, fun y H' ⟨y1, y2⟩ => .inl ⟨y1, y2⟩⟩⟩
abbrev RG (n : Int) : Prop := -(2 ^ 62) ≤ n ∧ n < 2 ^ 62
theorem wi_rng1 {Q : List D → Env2 → GD → Prop} (hg : Gl X "range") (hm : X.mg "range" = none)
    (h : WE X a r G fun x r1 G1 => ∃ n, vw r1 x = some (.int n) ∧ RG n ∧ Q ((rgI 0 n).map D.int) r1 G1) (hst : starEach [a] X.env = [(false, eval a X.env)] := by rfl) : WI X tg (.Call (.Name "range" p0) [a] [] pos) r G Q := fun F0 T F H σ lk S =>
  RunI.of (pi_range1 hg hm (pa_cons peR pa_nil hst) hst) ((h F0 T F H σ lk S).mono fun v H1 ⟨x, r1, G1, F1, e1, S1, k1, n, q1, hn, q2⟩ =>
    ⟨n, by rw [(S1.view k1 q1).int], hn.1, hn.2, _, r1, G1, F1, e1, S1, itd_range (by rw [Int.sub_zero]), q2⟩)
theorem ws_for {is : List Nat} (hp : PassesOwn (model X.prog X.w) X.A X.env X.xe) (hc : X.calm = true)
    (h : WI X tg e r G fun ds r2 G1 => ∃ I : Nat → Env2 → GD → Prop, I 0 r2 G1 ∧ (∀ (k : Nat) (d : D) (r3 : Env2) (G3 : GD), ds[k]? = some d → I k r3 G3 → WG X tg d r3 G3 is fun r4 G4 => WB X body r4 G4 { D0 with nx := I (k + 1), ct := I (k + 1), bk := D0.nx }) ∧
      ∀ r3 G3, I ds.length r3 G3 → D0.nx r3 G3) (hs : ∀ x, foldedSetIterable e X.env x = pure x := by intro _; rfl) : WS X (.For tg e body [] pos) r G D0 := fun F0 T F H σ lk S =>
  RunS.of (ps_for hp hc piR pgR pbR hs) ((h F0 T F H σ lk S).mono fun J H1 ⟨ds, r2, G1, Fa, e1, Sa, hJ, I, i0, it, ie⟩ => by
    refine ⟨fun i m σ' H' => m = ds.length - i ∧ i ≤ ds.length ∧ PostN X.K Fa T (I i) σ' H', ⟨ds.length, by simp, Nat.zero_le _, r2, G1, Fa, Sa.base, i0⟩, ?_⟩
    rintro i m σ' H' ⟨rfl, hi, r', G', F', S', q'⟩
    obtain ⟨j1, j2⟩ := hJ F' H' S'.bas.ff S'.bas.fh
    by_cases hlt : i < ds.length
    · obtain ⟨j3, _⟩ := j2 i ds[i] (List.getElem?_eq_getElem hlt)
      refine .inr ⟨j3, fun σ' H' => PostN X.K Fa T (I (i + 1)) σ' H', fun σ2 H2 p2 => ⟨ds.length - (i + 1), by omega, rfl, hlt, p2⟩, fun x H2 y => ?_⟩
      obtain ⟨F2, ef, S2, rp⟩ := hJ.item S'.bas.ff S' (List.getElem?_eq_getElem hlt) y
      exact turn1 lk Sa.bas S2 rp (it i ds[i] r' G' (List.getElem?_eq_getElem hlt) q') fun _ _ z => z
    · have e : i = ds.length := by omega
      subst e
      exact .inl ⟨j1, at_back Sa.bas ⟨r', G', F', S', ie r' G' q'⟩⟩)
abbrev FSp := List D → GD → (Res → GD → Prop) → (Exn → GD → Prop) → Prop
/-- what others hold at a call -/
def Tof (G : GD) (H : Hp) : Hp := fun a => match G a with
  | none => H a
  | some _ => none
theorem Tof_none {G : GD} {H : Hp} {a : Addr} (h : G a = none) : Tof G H a = H a := by unfold Tof; rw [h]
theorem Tof_some {G : GD} {H : Hp} {a : Addr} {o : D} (h : G a = some o) : Tof G H a = none := by unfold Tof; rw [h]
/-- a def's promise over data -/
def spD (K : PySem.W.Frag) (f : FSp) : Sp := fun vs H Q E => ∃ (F : Hp) (G : GD) (ds : List D) (post : Res → GD → Prop) (px : Exn → GD → Prop), Ex F H ∧ (∀ a d, G a = some d → Own K F H a d) ∧ (∀ a o, G a = some o → F a = none) ∧ RepL K F ds vs ∧ f ds G post px ∧
  (∀ x G' v H' F', post x G' → Bas K F (Tof G H) F' G' H' → RtOk K (Tof G H) F' G' H' x v → Q v H') ∧ ∀ x cls d G' H' F', px x G' → Bas K F (Tof G H) F' G' H' → ExOk K F' cls d x → E cls d H'
/-- behind a call the caller's state stands -/
theorem Sta.after {K : PySem.W.Frag} {F0 T F : Hp} {G : GD} {H F' : Hp} {G' : GD} {H' : Hp} {r : Env2} {σ : L2.St} (S : Sta K F0 T F G H r σ) (B : Bas K F (Tof G H) F' G' H') : Sta K F0 T F' G' H' r σ := by
  have tt : ∀ a o, T a = some o → Tof G H a = some o := fun a o h => by
    have hg : G a = none := by
      cases e : G a with
      | none => rfl
      | some u => rw [S.bas.gt a u e] at h; cases h
    rw [Tof_none hg]
    exact S.bas.tk a o h
  refine S.grow ⟨S.bas.ff.trans B.ff, fun a o h => ?_, B.fh, B.gh, B.fg, fun a o h => ?_, fun a o h => B.tk a o (tt a o h)⟩ B.ff fun p h1 h2 h3 ⟨u, hu⟩ => ?_
  · rcases B.ft a o h with z | z
    · exact S.bas.ft a o z
    · cases e : T a with
      | none => exact .inr rfl
      | some u => rw [tt a u e] at z; cases z
  · cases e : T a with
    | none => rfl
    | some u =>
      have z := B.gt a o h
      rw [tt a u e] at z; cases z
  · have hT : Tof G H p = some u := by rw [Tof_none h2]; exact hu
    refine ⟨fun o ho => by rw [hu] at ho; cases ho; exact B.tk p u hT, ?_, ?_, h3⟩
    · cases e : F' p with
      | none => rfl
      | some w =>
        rcases B.ft p w e with z | z
        · rw [h1] at z; cases z
        · rw [hT] at z; cases z
    · cases e : G' p with
      | none => rfl
      | some w => have z := B.gt p w e; rw [hT] at z; cases z
theorem ResOk.after {K : PySem.W.Frag} {F0 T F : Hp} {G : GD} {H F' : Hp} {G' : GD} {H' : Hp} {r : Env2} {σ : L2.St} {x : Res} {v : V} (S : Sta K F0 T F G H r σ) (B : Bas K F (Tof G H) F' G' H') (h : RtOk K (Tof G H) F' G' H' x v) : ResOk K T F' G' H' r σ x v := by
  cases x with
  | sh d => exact h
  | pk i => exact h.elim
  | fr d =>
    obtain ⟨p, rfl, h2, h3, h4, h5⟩ := h
    refine ⟨p, rfl, h2, h3, h4, ?_, fun i e he z => ?_⟩
    · cases e : T p with
      | none => rfl
      | some u =>
        have hg : G p = none := by
          cases eg : G p with
          | none => rfl
          | some w => rw [S.bas.gt p w eg] at e; cases e
        rw [Tof_none hg, S.bas.tk p u e] at h5; cases h5
    · obtain ⟨q, z1, z2, z3, z4, z5⟩ := S.ownS he
      rw [z] at z1; cases z1
      obtain ⟨o, ho⟩ := z2.there
      rw [Tof_none z4, ho] at h5; cases h5
/-- a promise met from a state -/
theorem spD_of {F0 T F F1 H : Hp} {σ : L2.St} {sp : FSp} {ds : List D} {vs : List V} {Q : Res → Env2 → GD → Prop} (lk : Lk X F0 T) (S : Sta X.K F0 T F1 G H r σ) (e1 : Ex F F1) (ha : RepL X.K F1 ds vs) (h : sp ds G (fun z G2 => Q z r G2) (fun x G2 => X.QX x r G2)) : spD X.K sp vs H (PostE X.K F0 T F σ Q) (L2.WE X.WX σ) :=
  ⟨F1, G, ds, _, _, S.bas.fh, S.bas.gh, S.bas.fg, ha, h, fun x G' v H' F' hp B rt => ⟨x, r, G', F', e1.trans B.ff, S.after B, ResOk.after S B rt, hp⟩, fun x cls d G' H' F' hp B ex => ⟨r, G', F', x, lk.sta (S.after B), ex, hp⟩⟩
theorem we_call {f : Addr} {fd : FuncData} {ps : List Str} {sp : FSp} {k : Nat} {x : Str} {Q : Res → Env2 → GD → Prop} (tk : X.Tk) (Fo : FnOk X.prog X.w X.K X.mg X.base (CX X.prog X.w) k f fd ps (spD X.K sp)) (hr : Room k X.A) (hg : Gl X x) (hm : X.mg x = some (.ref f)) (hk : PySem.W.keepIn X.K (.ref f) = true) (hb : Binds X.K fd ps [])
    (h : WA X (e :: es) r G fun ds r1 G1 => sp ds G1 (fun z G2 => Q z r1 G2) (fun x G2 => X.QX x r1 G2))
    (hdb : (x == ("__debug__" : Str)) = false := by decide) (he : starEach (e :: es) X.env = (false, eval e X.env) :: starEach es X.env := by rfl) (hpl : (backTo pos (starEach es X.env)).any (·.1) = false := by rfl) : WE X (.Call (.Name x p0) (e :: es) [] pos) r G Q := fun F0 T F H σ lk S =>
  Run.of (pe_callS Fo hr hg hm hk hb (fun σ => passAt tk σ) paR hdb he hpl) ((h F0 T F H σ lk S).mono fun vs H1 ⟨ds, r1, G1, F1, e1, S1, k1, q⟩ => spD_of lk S1 e1 k1 q)
end
def startD (N : List Str) (ds : List D) : Env2 := ds.map .sh ++ List.replicate (N.length - ds.length) .no
theorem sta_start {K : PySem.W.Frag} {F : Hp} {G : GD} {H : Hp} {N : List Str} {ds : List D} {vs : List V} (hl : ds.length ≤ N.length) (e1 : Ex F H) (e2 : ∀ a d, G a = some d → Own K F H a d) (e3 : ∀ a o, G a = some o → F a = none) (h : RepL K F ds vs) : Sta K F (Tof G H) F G H (startD N ds) (L2.start N vs) := by
  have hv := h.length
  refine ⟨⟨Ex.refl _, fun _ _ z => .inl z, e1, e2, e3, fun a o z => Tof_some z, fun a o z => ?_⟩, ?_, fun i s z => ?_, fun i j d e _ z => ?_⟩
  · unfold Tof at z
    split at z
    · exact z
    · cases z
  · unfold startD L2.start
    simp only [List.length_append, List.length_map, List.length_replicate, hv]
  · unfold startD at z
    by_cases hi : i < ds.length
    · rw [List.getElem?_append_left (by simpa using hi), List.getElem?_map, List.getElem?_eq_getElem hi] at z
      cases z
      obtain ⟨v, q1, q2⟩ := h.get (List.getElem?_eq_getElem hi)
      refine ⟨v, ?_, q2⟩
      unfold L2.start
      rw [List.getElem?_append_left (by rw [List.length_map, hv]; exact hi), List.getElem?_map, q1]
      rfl
    · rw [List.getElem?_append_right (by simpa using hi), List.getElem?_replicate] at z
      split at z
      · cases z; trivial
      · cases z
  · exfalso
    unfold startD at z
    by_cases hi : i < ds.length
    · rw [List.getElem?_append_left (by simpa using hi), List.getElem?_map, List.getElem?_eq_getElem hi] at z
      cases z
    · rw [List.getElem?_append_right (by simpa using hi), List.getElem?_replicate] at z
      split at z
      · cases z
      · cases z
section
variable {P : Program} {w : World} {K : PySem.W.Frag} {mg : Str → Option Value} {base : Heap}
/-- the context of a def's body -/
def cyOf (P : Program) (w : World) (K : PySem.W.Frag) (mg : Str → Option Value) (base : Heap) (N : List Str) (qual : Str) (scope : Scope) (f : Addr) (cd : Value) (A : Around) (outer : List Env) (s : Shared) (H : Hp) (E : XK) (F T : Hp) (px : Exn → GD → Prop) : Cy :=
  { L2.cxOf (L2.CX P w) P w K mg base N qual scope f cd A outer s H E with F0 := F, T := T, QX := fun x _ G => px x G }
theorem def_ok {x qual : Str} {st : Stmt} {f : Addr} {fd : FuncData} {N ps : List Str} {k : Nat} {sp : FSp} (Fo : Fun K x qual st f fd) (S : FnScope N ps (defScope st)) (len : ∀ ds G post px, sp ds G post px → ds.length = ps.length)
    (hbody : ∀ (cdv : Value) (A : Around) (outer : List Env) (s : Shared) (H : Hp) (E : XK) (F T : Hp), Room k (A.deeper (envOfC qual (defScope st) s.heap.objs.size f cdv)) → ∀ (ds : List D) (G : GD) (post : Res → GD → Prop) (px : Exn → GD → Prop), sp ds G post px →
      (cyOf P w K mg base N qual (defScope st) f cdv A outer s H E F T px).Tk → PassesOwn (model P w) (cyOf P w K mg base N qual (defScope st) f cdv A outer s H E F T px).A (cyOf P w K mg base N qual (defScope st) f cdv A outer s H E F T px).env (cyOf P w K mg base N qual (defScope st) f cdv A outer s H E F T px).xe →
      WB (cyOf P w K mg base N qual (defScope st) f cdv A outer s H E F T px) (defBody st) (startD N ds) G { nx := fun _ G' => post (.sh .non) G', rt := post }) : FnOk P w K mg base (L2.CX P w) (k + 1) f fd ps (spD K sp) := by
  refine Fo.okX S (fun vs H Q E h => ?_) (fun cdv A outer s H vs Q E hr h => ?_)
  · obtain ⟨F, G, ds, post, px, _, _, _, rp, hf, _⟩ := h
    rw [rp.length, len ds G post px hf]
  · obtain ⟨F, G, ds, post, px, e1, e2, e3, rp, hf, hq, hx⟩ := h
    have hl : ds.length ≤ N.length := by
      rw [len ds G post px hf]
      have := congrArg List.length S.pre
      rw [List.length_take] at this
      omega
    refine ⟨RunB _ (defBody st), pbR, ?_⟩
    have tk : (cyOf P w K mg base N qual (defScope st) f cdv A outer s H E F (Tof G H) px).Tk := (takes_of (E := E) rfl rfl rfl rfl).imp fun cls d σ H' ⟨r, G', F', x, S', ex, q⟩ => hx x cls d G' H' F' q S'.bas ex
    refine (hbody cdv A outer s H E F (Tof G H) hr ds G post px hf tk (passes_of rfl) F (Tof G H) F H (L2.start N vs) ⟨Ex.refl _, Ex.refl _, fun _ _ z => .inl z⟩ (sta_start hl e1 e2 e3 rp)).mono (fun σ' H' ⟨r', G', F', S', q⟩ => ?_) (fun v H' ⟨x, G', F', B, rt, q⟩ => hq x G' v H' F' q B rt) (fun _ _ ⟨_, _, _, _, q⟩ => q) (fun _ _ ⟨_, _, _, _, q⟩ => q)
    exact hq (.sh .non) G' .non H' F' q S'.bas rfl
end
theorem Sta.mut {K : PySem.W.Frag} {F0 T F : Hp} {G : GD} {H : Hp} {r : Env2} {σ : L2.St} (S : Sta K F0 T F G H r σ) {i : Nat} {d0 : D} (h : r[i]? = some (.own d0)) :
    ∃ p, σ[i]? = some (some (.ref p)) ∧ Own K F H p d0 ∧ F p = none ∧ ∀ (o' : HO) (d' : D), Own K F (upd H p o') p d' → Sta K F0 T F G (upd H p o') (r.set i (.own d')) σ := by
  obtain ⟨p, h1, h2, h3, h4, h5⟩ := S.ownS h
  have hi : i < r.length := (List.getElem?_eq_some_iff.mp h).1
  refine ⟨p, h1, h2, h3, fun o' d' ho => ⟨S.bas.put h3 h4 h5, by rw [List.length_set]; exact S.len, fun j s e => ?_, fun j k d e hjk ej ek => ?_⟩⟩
  · by_cases hj : i = j
    · subst hj
      rw [List.getElem?_set_self hi] at e
      cases e
      exact ⟨p, h1, ho, h3, h4, h5⟩
    · rw [List.getElem?_set_ne hj] at e
      have q := S.sl j s e
      cases s with
      | no => trivial
      | sh d => exact q
      | own d =>
        obtain ⟨p', q1, q2, q3, q4, q5⟩ := q
        have hpp : p' ≠ p := fun z => by
          subst z
          exact S.ap i j d0 d hj h e (h1.trans q1.symm)
        exact ⟨p', q1, q2.mono (Ex.refl _) fun u hu => by rw [upd_ne hpp]; exact hu, q3, q4, q5⟩
  · have own : ∀ (m : Nat) (x : D), (r.set i (.own d'))[m]? = some (.own x) → ∃ y, r[m]? = some (.own y) := fun m x hm => by
      by_cases hm2 : i = m
      · subst hm2; exact ⟨d0, h⟩
      · rw [List.getElem?_set_ne hm2] at hm; exact ⟨x, hm⟩
    obtain ⟨y1, hy1⟩ := own j d ej
    obtain ⟨y2, hy2⟩ := own k e ek
    exact S.ap j k y1 y2 hjk hy1 hy2
section
variable {X : Cy} {e e2 a b c o tg : Expr} {es : List Expr} {st : Stmt} {sts rest body orelse : List Stmt} {r : Env2} {G : GD} {pos apos cpos p0 : Pos} {D0 : EndsD}
/-- what a method does to an own list: the answer, the new content -/
def MutW (X : Cy) (id : String) (ds args : List D) (Kt : D → List D → Prop) : Prop :=
  ∀ (F H : Hp) (p : Addr) (vs us : List V), H p = some (.lst vs) → F p = none → Ex F H → RepL X.K F ds vs → RepL X.K F args us →
    ∃ rr, MtR X id rr ∧ rr (.ref p) us H (fun v' H' => ∃ vs' res ds', H' = upd H p (.lst vs') ∧ Rep X.K F res v' ∧ RepL X.K F ds' vs' ∧ Kt res ds')
def mtU (X : Cy) (id : String) : V → List V → Hp → VK → Prop := fun x xs H Q => ∃ rr, MtR X id rr ∧ rr x xs H Q
theorem mtU_ok {id : String} : MtR X id (mtU X id) := fun pins s σ H x xs v us Q I rx rv ⟨rr, h1, h2⟩ => h1 pins s σ H x xs v us Q I rx rv h2
theorem MtR.post {id : String} {rr : V → List V → Hp → VK → Prop} (h : MtR X id rr) (P : VK) : MtR X id (fun x xs H Q' => rr x xs H P ∧ ∀ v H', P v H' → Q' v H') := fun pins s σ H x xs v us Q' I rx rv ⟨q, m⟩ =>
  wpAny_mono (h pins s σ H x xs v us P I rx rv q) (fun _ _ ⟨v, H', I', rl, q⟩ => ⟨v, H', I', rl, m v H' q⟩) fun _ _ x => x
theorem mut_end {id : String} {ds args : List D} {i : Nat} {F0 T F F1 H : Hp} {σ : L2.St} {v : V} {us : List V} {Q : Res → Env2 → GD → Prop} (e1 : Ex F F1) (S : Sta X.K F0 T F1 G H r σ) (hi : r[i]? = some (.own (.lst ds))) (hv : σ[i]? = some (some v)) (ha : RepL X.K F1 args us)
    (h : MutW X id ds args fun res ds' => Q (.sh res) (r.set i (.own (.lst ds'))) G) : mtU X id v us H (PostE X.K F0 T F σ Q) := by
  obtain ⟨p, h1, ⟨vs, h2, h3⟩, h4, h5⟩ := S.mut hi
  rw [hv] at h1; cases h1
  obtain ⟨rr, k1, k2⟩ := h F1 H p vs us h2 h4 S.bas.fh h3 ha
  refine ⟨_, MtR.post k1 _, k2, fun v' H' ⟨vs', res, ds', z1, z2, z3, z4⟩ => ?_⟩
  subst z1
  exact ⟨.sh res, _, G, F1, e1, h5 _ (.lst ds') ⟨vs', upd_same, z3⟩, z2, z4⟩
theorem we_m1 {name : Str} {id : String} {Q : Res → Env2 → GD → Prop} (pa : PlainAttrs "list") (slot : Slot "list" name id) (hty : typeOf (.builtin id) = pure (.type "method_descriptor"))
    (h : WE X o r G fun x r1 G1 => ∃ i ds0, x = .pk i ∧ r1[i]? = some (.own (.lst ds0)) ∧ WE X e r1 G1 fun y r2 G2 => ∃ d r3 ds, fz r2 y = some (d, r3) ∧ r3[i]? = some (.own (.lst ds)) ∧ MutW X id ds [d] fun res ds' => Q (.sh res) (r3.set i (.own (.lst ds'))) G2)
    (hbase : attributeBase o name X.env (eval o X.env) = eval o X.env := by rfl)
    (hfew : ((backTo cpos (starEach [e] X.env)).all (fun x => !x.1) && (backToKw cpos (keywordEach [] X.env)).all (fun x => x.1.isSome) && decide (([e] : List Expr).length + ([] : List Keyword).length + (if ([] : List Keyword).isEmpty then 0 else 1) < 30)) = true := by rfl)
    (hline : (apos.endLine == cpos.line) = true := by rfl) (hs : starEach [e] X.env = (false, eval e X.env) :: starEach [] X.env := by rfl) (hplain : (backTo cpos (starEach [] X.env)).any (·.1) = false := by rfl) :
    WE X (.Call (.Attribute o name apos) [e] [] cpos) r G Q := fun F0 T F H σ lk S =>
  Run.of (pe_bm pa slot hty mtU_ok peR (pa_cons peR pa_nil hs) hbase hfew hline hs hplain) ((h F0 T F H σ lk S).mono fun v H1 ⟨x, r1, G1, F1, e1, S1, k1, i, ds0, hx, hi0, h1⟩ => by
    subst hx
    obtain ⟨hv, _⟩ := k1
    obtain ⟨p, h1', ⟨vs, h2, h3⟩, _⟩ := S1.mut hi0
    rw [hv] at h1'; cases h1'
    refine ⟨.inl ⟨rfl, vs, .inl (.inl h2)⟩, (h1 F0 T F1 H1 σ lk S1).mono fun w H2 ⟨y, r2, G2, F2, e2, S2, k2, d, r3, ds, q1, q2, q3⟩ => ?_⟩
    obtain ⟨F3, e3, S3, rp⟩ := S2.fz k2 q1
    exact mut_end ((e1.trans e2).trans e3) S3 q2 hv (.one rp) q3)
theorem mw_append {ds : List D} {d : D} {Kt : D → List D → Prop} (hl : ds.length < LIM) (k : Kt .non (ds ++ [d])) : MutW X "list.append" ds [d] Kt := fun F H p vs us hp hf ex h1 h2 => by
  obtain ⟨v, u', rfl, h3, h4⟩ := h2
  cases (show u' = [] from h4)
  exact ⟨_, mt_append, p, vs, v, rfl, rfl, hp, by rw [h1.length]; exact lim_lt hl, vs ++ [v], .non, ds ++ [d], rfl, rfl, h1.append (.one h3), k⟩
def rExtendR : V → List V → Hp → VK → Prop := fun x vs H Q => ∃ l b xs zs, x = .ref l ∧ vs = [.ref b] ∧ H l = some (.lst xs) ∧ Rd H b (.lst zs) ∧ xs.length + zs.length ≤ sizeLine ∧ Q .non (upd H l (.lst (xs ++ zs)))
theorem mt_extendR {X : Cx} : MtR X "list.extend" rExtendR := by
  intro pins s σ H x vs v us Q I rx rv h
  obtain ⟨l, b, xs, zs, rfl, rfl, hH, hB, hz, q⟩ := h
  cases rx
  obtain ⟨u, rfl, ru⟩ := rv.one
  cases ru
  obtain ⟨z, its, n, r, hl, e⟩ := I.lstM hH
  obtain ⟨z2, its2, n2, r2, e2⟩ := lst_of I hB
  have hl2 := r2.length
  have hsz : its.toArray.size + its2.toArray.size ≤ sizeLine := by rw [List.size_toArray, List.size_toArray]; omega
  have hlong : ¬ (!its.toArray.isEmpty && Builtin.List.listTooLong (its.toArray.size + its2.toArray.size)) = true := by
    rw [notLongL hsz, Bool.and_false]
    exact Bool.false_ne_true
  refine call_meets F.slot_list_extend ⟨_, e, rfl⟩ F.entry_list_extend (F.args_list_extend_2 _ _)
    (AutoSeq1.list_extend_list_list_0 l its.toArray n b its2.toArray n2 hlong (by rw [List.size_toArray]; omega) (by omega)) ⟨e, e2, ?_⟩
  refine ⟨.non, _, I.lset (its' := its ++ its2) hH e (by simp) (r.append r2) ?_, rfl, q⟩
  rw [List.length_append]
  omega
theorem mw_extend {ds es : List D} {Kt : D → List D → Prop} (hl : ds.length + es.length ≤ LIM) (k : Kt .non (ds ++ es)) : MutW X "list.extend" ds [.lst es] Kt := fun F H p vs us hp hf ex h1 h2 => by
  obtain ⟨v, u', rfl, ⟨q, ws, rfl, h5, h6⟩, h4⟩ := h2
  cases (show u' = [] from h4)
  exact ⟨_, mt_extendR, p, q, vs, ws, rfl, rfl, hp, ex.rd h5, by rw [h1.length, h6.length]; exact lim_ok hl, vs ++ ws, .non, ds ++ es, rfl, rfl, h1.append h6, k⟩
theorem we_append {Q : Res → Env2 → GD → Prop}
    (h : WE X o r G fun x r1 G1 => ∃ i ds0, x = .pk i ∧ r1[i]? = some (.own (.lst ds0)) ∧ WE X e r1 G1 fun y r2 G2 => ∃ d r3 ds, fz r2 y = some (d, r3) ∧ r3[i]? = some (.own (.lst ds)) ∧ ds.length < LIM ∧ Q (.sh .non) (r3.set i (.own (.lst (ds ++ [d])))) G2)
    (hbase : attributeBase o "append" X.env (eval o X.env) = eval o X.env := by rfl)
    (hfew : ((backTo cpos (starEach [e] X.env)).all (fun x => !x.1) && (backToKw cpos (keywordEach [] X.env)).all (fun x => x.1.isSome) && decide (([e] : List Expr).length + ([] : List Keyword).length + (if ([] : List Keyword).isEmpty then 0 else 1) < 30)) = true := by rfl)
    (hline : (apos.endLine == cpos.line) = true := by rfl) (hs : starEach [e] X.env = (false, eval e X.env) :: starEach [] X.env := by rfl) (hplain : (backTo cpos (starEach [] X.env)).any (·.1) = false := by rfl) :
    WE X (.Call (.Attribute o "append" apos) [e] [] cpos) r G Q :=
  we_m1 PySem.F.plainAttrs_list PySem.F.slot_list_append PySem.F.type_list_append (h.mono fun x r1 G1 ⟨i, ds0, h1, h2, h3⟩ => ⟨i, ds0, h1, h2, h3.mono fun y r2 G2 ⟨d, r3, ds, k1, k2, k3, k4⟩ => ⟨d, r3, ds, k1, k2, mw_append k3 k4⟩⟩) hbase hfew hline hs hplain
/-- a read-only method of a list with one argument -/
def MtW (X : Cy) (id : String) (dr da : D) (Q : Res → Prop) : Prop :=
  ∀ (F0 T F : Hp) (G : GD) (H : Hp) (r : Env2) (σ : L2.St) (v w : V), Sta X.K F0 T F G H r σ → Vw X.K F H dr v → Vw X.K F H da w →
    ∃ rr, MtR X id rr ∧ rr v [w] H (fun v' H' => ∃ x F', Ex F F' ∧ Sta X.K F0 T F' G H' r σ ∧ ResOk X.K T F' G H' r σ x v' ∧ Q x)
theorem we_r1 {name : Str} {id : String} {Q : Res → Env2 → GD → Prop} (pa : PlainAttrs "list") (slot : Slot "list" name id) (hty : typeOf (.builtin id) = pure (.type "method_descriptor"))
    (h : WE X o r G fun x r1 G1 => ∃ ds0, VwR r1 G1 x (.lst ds0) ∧ WE X e r1 G1 fun y r2 G2 => ∃ dr da, VwR r2 G2 x dr ∧ VwR r2 G2 y da ∧ MtW X id dr da fun z => Q z r2 G2)
    (hbase : attributeBase o name X.env (eval o X.env) = eval o X.env := by rfl)
    (hfew : ((backTo cpos (starEach [e] X.env)).all (fun x => !x.1) && (backToKw cpos (keywordEach [] X.env)).all (fun x => x.1.isSome) && decide (([e] : List Expr).length + ([] : List Keyword).length + (if ([] : List Keyword).isEmpty then 0 else 1) < 30)) = true := by rfl)
    (hline : (apos.endLine == cpos.line) = true := by rfl) (hs : starEach [e] X.env = (false, eval e X.env) :: starEach [] X.env := by rfl) (hplain : (backTo cpos (starEach [] X.env)).any (·.1) = false := by rfl) :
    WE X (.Call (.Attribute o name apos) [e] [] cpos) r G Q := fun F0 T F H σ lk S =>
  Run.of (pe_bm pa slot hty mtU_ok peR (pa_cons peR pa_nil hs) hbase hfew hline hs hplain) ((h F0 T F H σ lk S).mono fun v H1 ⟨x, r1, G1, F1, e1, S1, k1, ds0, hx, h1⟩ => by
    obtain ⟨p, vs, rfl, z1, _⟩ := (S1.viewR k1 hx).lst S1.bas.fh
    obtain ⟨F1', e1', S1', hv⟩ := hold S1 k1
    refine ⟨.inl ⟨rfl, vs, .inl z1⟩, (h1 F0 T F1' H1 σ lk S1').mono fun w H2 ⟨y, r2, G2, F2, e2, S2, k2, dr, da, q1, q2, q3⟩ => ?_⟩
    obtain ⟨rr, h3, h4⟩ := q3 F0 T F2 G2 H2 r2 σ _ w S2 (hv F2 G2 H2 r2 dr e2 S2 q1) (S2.viewR k2 q2)
    exact ⟨_, MtR.post h3 _, h4, fun v H' ⟨z, F', m1, m2, m3, m4⟩ => ⟨z, r2, G2, F', ((e1.trans e1').trans e2).trans m1, m2, m3, m4⟩⟩)
def Cy.blk (X : Cy) (s : Shared) (H : Hp) (scope : Scope) (env : Env) (fp : List Addr) : Cy := { X.toCx.blk s H scope env fp with F0 := X.F0, T := X.T, QX := fun _ _ _ => False }
def BlkX (X : Cy) (scope : Scope) (Y : Cy) : Prop := ∃ (s : Shared) (H : Hp) (C : Addr) (cl : List (Str × Addr)) (fp : List Addr), Y = X.blk s H scope (compEnvC scope cl C X.env) fp
theorem BlkX.k {scope : Scope} {Y : Cy} (h : BlkX X scope Y) : Y.K = X.K := by obtain ⟨_, _, _, _, _, rfl⟩ := h; rfl
theorem BlkX.lk {scope : Scope} {Y : Cy} {F0 T : Hp} (h : BlkX X scope Y) (lk : Lk X F0 T) : Lk Y F0 T := by obtain ⟨_, _, _, _, _, rfl⟩ := h; exact ⟨lk.t, lk.f, lk.ft⟩
theorem BlkX.tk {scope : Scope} {Y : Cy} (h : BlkX X scope Y) : Y.Tk := by
  obtain ⟨_, _, _, _, _, rfl⟩ := h
  exact takes0.imp fun _ _ _ _ ⟨_, _, _, _, _, _, z⟩ => z
def wipeD (r : Env2) : List Nat → Env2
  | [] => r
  | i :: is => (wipeD r is).set i .no
theorem wipeD_len (r : Env2) : ∀ is, (wipeD r is).length = r.length
  | [] => rfl
  | i :: is => by unfold wipeD; rw [List.length_set, wipeD_len r is]
theorem Sta.wipe {K : PySem.W.Frag} {F0 T F : Hp} {G : GD} {H : Hp} {r : Env2} {σ σ' : L2.St} (S : Sta K F0 T F G H r σ') : ∀ (is : List Nat), L2.wipe σ' is = L2.wipe σ is → Sta K F0 T F G H (wipeD r is) (L2.wipe σ is) := by
  intro is e
  rw [← e]
  clear e
  have key : ∀ (is : List Nat) (i : Nat) (s : Sl), (wipeD r is)[i]? = some s → s = .no ∨ (r[i]? = some s ∧ (L2.wipe σ' is)[i]? = σ'[i]?) := by
    intro is
    induction is with
    | nil => intro i s h; exact .inr ⟨h, rfl⟩
    | cons j is ih =>
      intro i s h
      unfold wipeD at h
      unfold L2.wipe
      by_cases hj : j = i
      · subst hj
        by_cases hl : j < (wipeD r is).length
        · rw [List.getElem?_set_self hl] at h; left; cases h; rfl
        · rw [List.getElem?_eq_none (by rw [List.length_set]; omega)] at h; cases h
      · rw [List.getElem?_set_ne hj] at h ⊢
        exact ih i s h
  refine ⟨S.bas, by rw [wipeD_len, wipe_length]; exact S.len, fun i s h => ?_, fun i j d e' hij hi hj => ?_⟩
  · rcases key is i s h with z | ⟨z1, z2⟩
    · subst z; trivial
    · rw [z2]; exact S.sl i s z1
  · rcases key is i _ hi with z | ⟨z1, z2⟩
    · cases z
    · rcases key is j _ hj with y | ⟨y1, y2⟩
      · cases y
      · rw [z2, y2]; exact S.ap i j d e' hij z1 y1
/-- what is done in a comprehension's turn, over data; B: the contexts in which elt is read -/
def LcTurnB (X : Cy) (scope : Scope) (B : Cy → Prop) (tg elt : Expr) (ifs : List Expr) (is : List Nat) (d : D) (acc : List D) (r : Env2) (G : GD) (Nx : List D → Env2 → GD → Prop) : Prop :=
  ∀ Y, BlkX X scope Y → WG Y tg d r G is fun r1 G1 => match ifs with
    | [] => ∀ Y, B Y → WE Y elt r1 G1 fun z r2 G2 => ∃ d' r3, fz r2 z = some (d', r3) ∧ acc.length < LIM ∧ Nx (acc ++ [d']) (wipeD r3 is) G2
    | [c] => ∀ Y, BlkX X scope Y → WT Y c r1 G1 fun b r2 G2 => (b = true → ∀ Y, B Y → WE Y elt r2 G2 fun z r3 G3 => ∃ d' r4, fz r3 z = some (d', r4) ∧ acc.length < LIM ∧ Nx (acc ++ [d']) (wipeD r4 is) G3) ∧ (b = false → Nx acc (wipeD r2 is) G2)
    | _ => False
def LcTurn (X : Cy) (scope : Scope) (tg elt : Expr) (ifs : List Expr) (is : List Nat) (d : D) (acc : List D) (r : Env2) (G : GD) (Nx : List D → Env2 → GD → Prop) : Prop :=
  ∀ Y, BlkX X scope Y → WG Y tg d r G is fun r1 G1 => match ifs with
    | [] => ∀ Y, BlkX X scope Y → WE Y elt r1 G1 fun z r2 G2 => ∃ d' r3, fz r2 z = some (d', r3) ∧ acc.length < LIM ∧ Nx (acc ++ [d']) (wipeD r3 is) G2
    | [c] => ∀ Y, BlkX X scope Y → WT Y c r1 G1 fun b r2 G2 => (b = true → ∀ Y, BlkX X scope Y → WE Y elt r2 G2 fun z r3 G3 => ∃ d' r4, fz r3 z = some (d', r4) ∧ acc.length < LIM ∧ Nx (acc ++ [d']) (wipeD r4 is) G3) ∧ (b = false → Nx acc (wipeD r2 is) G2)
    | _ => False
/-- the readings of a block, over all its contexts -/
def blkG (X : Cy) (scope : Scope) (tg : Expr) : TG := fun v σ H Q => ∀ Y, BlkX X scope Y → RunG Y tg v σ H Q
def blkE (X : Cy) (scope : Scope) (e : Expr) : TE := fun σ H Q => ∀ Y, BlkX X scope Y → Run Y e σ H Q
def blkT (X : Cy) (scope : Scope) (ifs : List Expr) : TT := fun σ H Q => match ifs with
  | [] => Q true H
  | [c] => ∀ Y, BlkX X scope Y → RunT Y c σ H Q
  | _ => False
theorem blkT_ok {scope : Scope} {ifs : List Expr} (s : Shared) (H : Hp) (C : Addr) (cl : List (Str × Addr)) (fp : List Addr) : PTs (X.toCx.blk s H scope (compEnvC scope cl C X.env) fp) ifs (blkT X scope ifs) := by
  refine ⟨fun pins s' σ H' Q I h => ?_⟩
  match ifs, h with
  | [], h => exact pts_nil.run pins s' σ H' Q I h
  | [c], h => exact (pts_one ptR).run pins s' σ H' Q I (h (X.blk s H scope (compEnvC scope cl C X.env) fp) ⟨s, H, C, cl, fp, rfl⟩)
  | _ :: _ :: _, h => exact h.elim
/-- one turn, over heaps -/
theorem lc_turnB {scope : Scope} {elt : Expr} {ifs : List Expr} {is : List Nat} {d : D} {acc : List D} {Nx : List D → Env2 → GD → Prop} {F0 T F H : Hp} {σ : L2.St} {v : V} {L : Addr} {us : List V}
    (lk : Lk X F0 T) (S : Sta X.K F0 (upd T L (.lst us)) F G H r (L2.wipe σ is)) (hT : T L = none) (h0 : F0 L = none) (ha : RepL X.K F0 acc us) (rp : Rep X.K F d v) {B : Cy → Prop} {te : TE} (hBk : ∀ Y, B Y → Y.K = X.K) (hBl : ∀ Y, B Y → ∀ T', Lk X F0 T' → Lk Y F0 T') (hte : ∀ σ H Q, (∀ Y, B Y → Run Y elt σ H Q) → te σ H Q) (h : LcTurnB X scope B tg elt ifs is d acc r G Nx) {Pn : Hp → Prop}
    (hN : ∀ acc' us' r' G' F' H', Nx acc' r' G' → RepL X.K F' acc' us' → Sta X.K F0 (upd T L (.lst us')) F' G' H' r' (L2.wipe σ is) → Pn H') :
    blkG X scope tg v (L2.wipe σ is) H fun σ2 H2 => L2.wipe σ2 is = L2.wipe σ is ∧ blkT X scope ifs σ2 H2 fun b H3 =>
      if b = true then te σ2 H3 fun y H4 => ∃ acc', H4 L = some (.lst acc') ∧ acc'.length < sizeLine ∧ Pn (upd H4 L (.lst (acc' ++ [y]))) else Pn H3 := by
  have wi : L2.wipe (L2.wipe σ is) is = L2.wipe σ is := by
    have aux : ∀ (js : List Nat) (τ : L2.St), (∀ j ∈ js, ∀ x, τ[j]? = some x → x = none) → L2.wipe τ js = τ := by
      intro js
      induction js with
      | nil => intro τ _; rfl
      | cons j js ih =>
        intro τ hτ
        unfold L2.wipe
        rw [ih τ fun k hk => hτ k (List.mem_cons_of_mem _ hk)]
        refine List.ext_getElem? fun k => ?_
        by_cases hjk : j = k
        · subst hjk
          by_cases hl : j < τ.length
          · rw [List.getElem?_set_self hl]
            cases e : τ[j]? with
            | none => rw [List.getElem?_eq_none_iff] at e; omega
            | some x => rw [hτ j List.mem_cons_self x e]
          · rw [List.getElem?_eq_none (by rw [List.length_set]; omega), List.getElem?_eq_none (by omega)]
        · rw [List.getElem?_set_ne hjk]
    refine aux is _ fun j hj x hx => ?_
    cases x with
    | none => rfl
    | some y => exact absurd hj (wipe_some hx).2
  have fin : ∀ (F2 : Hp) (G2 : GD) (H4 : Hp) (r2 r3 : Env2) (σ2 : L2.St) (z : Res) (y : V) (d' : D), L2.wipe σ2 is = L2.wipe σ is → Sta X.K F0 (upd T L (.lst us)) F2 G2 H4 r2 σ2 → ResOk X.K (upd T L (.lst us)) F2 G2 H4 r2 σ2 z y → fz r2 z = some (d', r3) → acc.length < LIM → Nx (acc ++ [d']) (wipeD r3 is) G2 →
      ∃ acc', H4 L = some (.lst acc') ∧ acc'.length < sizeLine ∧ Pn (upd H4 L (.lst (acc' ++ [y]))) := fun F2 G2 H4 r2 r3 σ2 z y d' hw S2 k2 q1 q2 q3 => by
    obtain ⟨F3, e3, S3, rp3⟩ := S2.fz k2 q1
    have hL : H4 L = some (.lst us) := S3.bas.tk L _ upd_same
    have ha3 : RepL X.K F3 acc us := RepL.mono S3.bas.ff _ _ ha
    have fL : F3 L = none := by
      cases e : F3 L with
      | none => rfl
      | some u =>
        rcases S3.bas.ft L u e with zz | zz
        · rw [h0] at zz; cases zz
        · rw [upd_same] at zz; cases zz
    have gL : G2 L = none := by
      cases e : G2 L with
      | none => rfl
      | some u => have zz := S3.bas.gt L u e; rw [upd_same] at zz; cases zz
    refine ⟨us, hL, by rw [ha3.length]; exact lim_lt q2, hN _ (us ++ [y]) _ G2 F3 _ q3 (ha3.append (.one rp3)) ?_⟩
    have Sw := S3.wipe is hw
    refine ⟨⟨Sw.bas.ff, fun q u hq => ?_, fun q u hq => ?_, fun q u hq => ?_, Sw.bas.fg, fun q u hq => ?_, fun q u hq => ?_⟩, Sw.len, fun i s hs => ?_, Sw.ap⟩
    · have hqL : q ≠ L := fun zz => by subst zz; rw [fL] at hq; cases hq
      have := Sw.bas.ft q u hq
      rw [upd_ne hqL] at this ⊢
      exact this
    · have hqL : q ≠ L := fun zz => by subst zz; rw [fL] at hq; cases hq
      rw [upd_ne hqL]; exact Sw.bas.fh q u hq
    · have hqL : q ≠ L := fun zz => by subst zz; rw [gL] at hq; cases hq
      exact (Sw.bas.gh q u hq).mono (Ex.refl _) fun o ho => by rw [upd_ne hqL]; exact ho
    · have hqL : q ≠ L := fun zz => by subst zz; rw [gL] at hq; cases hq
      have := Sw.bas.gt q u hq
      rw [upd_ne hqL] at this ⊢
      exact this
    · by_cases hqL : q = L
      · subst hqL; rw [upd_same] at hq ⊢; exact hq
      · rw [upd_ne hqL] at hq ⊢
        exact Sw.bas.tk q u (by rw [upd_ne hqL]; exact hq)
    · have hh := Sw.sl i s hs
      cases s with
      | no => trivial
      | sh d => exact hh
      | own d =>
        obtain ⟨p, k1, k3, k4, k5, k6⟩ := hh
        have hpL : p ≠ L := fun zz => by subst zz; rw [upd_same] at k6; cases k6
        rw [upd_ne hpL] at k6
        exact ⟨p, k1, k3.mono (Ex.refl _) (fun u hu => by rw [upd_ne hpL]; exact hu), k4, k5, by rw [upd_ne hpL]; exact k6⟩
  intro Y hY pins s u I rv
  have lk' : Lk X F0 (upd T L (.lst us)) := lk.ext (Ex.new hT)
  have hYK : Y.K = X.K := hY.k
  have h' := h Y hY
  unfold WG at h'
  rw [hYK] at h'
  refine wpAny_mono (h' F0 (upd T L (.lst us)) F H (L2.wipe σ is) v (hY.lk lk') S rp pins s u I rv) (fun _ s' ⟨σ', H', I', hw, r', G', F', e', S', q⟩ => ⟨σ', H', I', hw.trans wi, ?_⟩) fun _ _ x => x
  have hw' := hw.trans wi
  match ifs, q with
  | [], q =>
    unfold blkT
    dsimp only
    rw [if_pos rfl]
    refine hte _ _ _ fun Z hZ => ?_
    have q' := q Z hZ
    unfold WE at q'
    rw [hBk Z hZ] at q'
    exact (q' F0 _ F' H' σ' (hBl Z hZ _ lk') S').mono fun y H4 ⟨z, r2, G2, F2, e2, S2, k2, d', r3, m1, m2, m3⟩ => fin F2 G2 H4 r2 r3 σ' z y d' hw' S2 k2 m1 m2 m3
  | [c], q =>
    intro Z hZ
    have q' := q Z hZ
    unfold WT at q'
    rw [hZ.k] at q'
    refine (q' F0 _ F' H' σ' (hZ.lk lk') S').mono fun b H3 ⟨r2, G2, F2, e2, S2, m1, m2⟩ => ?_
    cases b with
    | true =>
      rw [if_pos rfl]
      refine hte _ _ _ fun W hW => ?_
      have q2 := m1 rfl W hW
      unfold WE at q2
      rw [hBk W hW] at q2
      exact (q2 F0 _ F2 H3 σ' (hBl W hW _ lk') S2).mono fun y H4 ⟨z, r3, G3, F3, e3, S3, k3, d', r4, n1, n2, n3⟩ => fin F3 G3 H4 r3 r4 σ' z y d' hw' S3 k3 n1 n2 n3
    | false =>
      rw [if_neg Bool.false_ne_true]
      exact hN acc us _ G2 F2 H3 (m2 rfl) (RepL.mono S2.bas.ff _ _ ha) (S2.wipe is hw')
  | _ :: _ :: _, q => exact q.elim
/-- what a comprehension's loop keeps -/
def LcInv (K : PySem.W.Frag) (T Fa : Hp) (τ : L2.St) (L : Addr) (I : List D → Env2 → GD → Prop) : Hp → Prop := fun H' =>
  ∃ acc us r' G' F', RepL K F' acc us ∧ Sta K Fa (upd T L (.lst us)) F' G' H' r' τ ∧ I acc r' G'
theorem lc_begin {K : PySem.W.Frag} {F0 T F H : Hp} {σ : L2.St} {is : List Nat} {L : Addr} {I : List D → Env2 → GD → Prop} (S : Sta K F0 T F G H r σ) (hL : H L = none) (h0 : I [] (wipeD r is) G) : LcInv K T F (L2.wipe σ is) L I (upd H L (.lst [])) := by
  obtain ⟨f1, f2, f3⟩ := S.bas.freshF hL
  have Sb := (S.newH (o := .lst []) hL).base.wipe (σ := σ) is rfl
  refine ⟨[], [], _, G, F, rfl, ⟨⟨Sb.bas.ff, fun q u hq => .inl hq, Sb.bas.fh, Sb.bas.gh, Sb.bas.fg, fun q u hq => ?_, fun q u hq => ?_⟩, Sb.len, fun i s hs => ?_, Sb.ap⟩, h0⟩
  · have hq' : q ≠ L := fun z => by subst z; rw [f2] at hq; cases hq
    rw [upd_ne hq']; exact Sb.bas.gt q u hq
  · by_cases hq' : q = L
    · subst hq'; rw [upd_same] at hq ⊢; exact hq
    · rw [upd_ne hq'] at hq; exact Sb.bas.tk q u hq
  · have hh := Sb.sl i s hs
    cases s with
    | no => trivial
    | sh d => exact hh
    | own d =>
      obtain ⟨p, k1, k2, k3, k4, k5⟩ := hh
      have hp : p ≠ L := fun z => by
        subst z
        by_cases hi : i ∈ is
        · have : (L2.wipe σ is)[i]? ≠ some (some (V.ref p)) := fun z => (wipe_some z).2 hi
          exact this k1
        · have e := (wipe_some k1).1
          have hr : r[i]? = some (.own d) := by
            have aux : ∀ (js : List Nat), i ∉ js → (wipeD r js)[i]? = r[i]? := by
              intro js
              induction js with
              | nil => intro _; rfl
              | cons j js ih =>
                intro hj
                unfold wipeD
                rw [List.getElem?_set_ne (fun z => hj (by rw [z]; exact List.mem_cons_self)), ih (fun z => hj (List.mem_cons_of_mem _ z))]
            rw [aux is hi] at hs
            exact hs
          exact S.freshR hL i d hr e
      exact ⟨p, k1, k2, k3, k4, by rw [upd_ne hp]; exact k5⟩
theorem lc_end {K : PySem.W.Frag} {F0 T Fa : Hp} {Ga : GD} {Ha H' : Hp} {σ : L2.St} {is : List Nat} {L : Addr} {I : List D → Env2 → GD → Prop} {Q : Res → Env2 → GD → Prop} (B : Bas K F0 T Fa Ga Ha) (hL : Ha L = none) (hσ : Wk r (wipeD r is)) (S0 : Sta K F0 T Fa Ga Ha r σ) (h : LcInv K T Fa (L2.wipe σ is) L I H') (he : ∀ acc r' G', I acc r' G' → Q (.fr (.lst acc)) r' G') :
    PostE K F0 T Fa σ Q (.ref L) H' := by
  obtain ⟨acc, us, r', G', F', ha, S, q⟩ := h
  obtain ⟨f1, f2, f3⟩ := B.freshF hL
  have fL : F' L = none := by
    cases e : F' L with
    | none => rfl
    | some u =>
      rcases S.bas.ft L u e with zz | zz
      · rw [f1] at zz; cases zz
      · rw [upd_same] at zz; cases zz
  have gL : G' L = none := by
    cases e : G' L with
    | none => rfl
    | some u => have zz := S.bas.gt L u e; rw [upd_same] at zz; cases zz
  have tsub : ∀ q u, T q = some u → upd T L (.lst us) q = some u := fun q u hq => by
    have hqL : q ≠ L := fun zz => by subst zz; rw [f3] at hq; cases hq
    rw [upd_ne hqL]; exact hq
  have tdown : ∀ q, upd T L (.lst us) q = none → T q = none := fun q hq => by
    cases hf : T q with
    | none => rfl
    | some u => rw [tsub q u hf] at hq; cases hq
  have slots : ∀ (i : Nat) (s : Sl), r'[i]? = some s → SlotOk K T F' G' H' s σ[i]? := fun i s hs => by
    have hh := S.sl i s hs
    cases s with
    | no => trivial
    | sh d => obtain ⟨v, k1, k2⟩ := hh; exact ⟨v, (wipe_some k1).1, k2⟩
    | own d => obtain ⟨p, k1, k2, k3, k4, k5⟩ := hh; exact ⟨p, (wipe_some k1).1, k2, k3, k4, tdown p k5⟩
  have St : Sta K F0 T F' G' H' r' σ := by
    refine ⟨⟨B.ff.trans S.bas.ff, fun q u hq => ?_, S.bas.fh, S.bas.gh, S.bas.fg, fun q u hq => tdown q (S.bas.gt q u hq), fun q u hq => S.bas.tk q u (tsub q u hq)⟩, by rw [S.len, wipe_length], slots, fun i j d e hij hi hj z => ?_⟩
    · rcases S.bas.ft q u hq with zz | zz
      · exact B.ft q u zz
      · exact .inr (tdown q zz)
    · obtain ⟨p, k1, _⟩ := S.ownS hi
      obtain ⟨p2, m1, _⟩ := S.ownS hj
      refine S.ap i j d e hij hi hj ?_
      rw [(wipe_some k1).1, (wipe_some m1).1] at z
      rw [k1, m1, z]
  refine ⟨.fr (.lst acc), r', G', F', S.bas.ff, St, ⟨L, rfl, ⟨us, S.bas.tk L _ upd_same, ha⟩, fL, gL, f3, fun i d hi z => ?_⟩, he acc r' G' q⟩
  obtain ⟨p, k1, _, _, _, k5⟩ := S.ownS hi
  have e1 := (wipe_some k1).1
  rw [e1] at z; cases z
  rw [upd_same] at k5; cases k5
theorem wk_wipe (r : Env2) : ∀ is, Wk r (wipeD r is)
  | [] => Wk.refl r
  | i :: is => by
    have ih := wk_wipe r is
    unfold wipeD
    have aux : ∀ {a b : Env2}, Wk a b → ∀ i, Wk a (b.set i .no) := by
      intro a b w
      induction w with
      | nil => intro i; exact .nil
      | no w ih =>
        intro i
        cases i with
        | zero => exact .no w
        | succ i => exact .no (ih i)
      | eq w ih =>
        intro i
        cases i with
        | zero => exact .no w
        | succ i => exact .eq (ih i)
    exact aux ih i
/-- one step of a comprehension over items -/
theorem lc_stepB {scope : Scope} {elt : Expr} {ifs : List Expr} {is : List Nat} {d : D} {J : It} {ds : List D} {i : Nat} {T Fa : Hp} {H H' : Hp} {σ : L2.St} {v : V} {L : Addr} {I I' : List D → Env2 → GD → Prop} (lk : Lk X Fa T) (hL : Fa L = none) (hT : T L = none) (hJ : ItD X.K J Fa ds) (hi : ds[i]? = some d) (h : LcInv X.K T Fa (L2.wipe σ is) L I H) (y : J.yld i H v H')
    {B : Cy → Prop} {te : TE} (hBk : ∀ Y, B Y → Y.K = X.K) (hBl : ∀ Y, B Y → ∀ F' T', Ex Fa F' → Lk X F' T' → Lk Y F' T') (hte : ∀ σ H Q, (∀ Y, B Y → Run Y elt σ H Q) → te σ H Q) (hs : ∀ acc r' G', I acc r' G' → LcTurnB X scope B tg elt ifs is d acc r' G' I') :
    blkG X scope tg v (L2.wipe σ is) H' fun σ2 H2 => L2.wipe σ2 is = L2.wipe σ is ∧ blkT X scope ifs σ2 H2 fun b H3 =>
      if b = true then te σ2 H3 fun y H4 => ∃ acc', H4 L = some (.lst acc') ∧ acc'.length < sizeLine ∧ LcInv X.K T Fa (L2.wipe σ is) L I' (upd H4 L (.lst (acc' ++ [y]))) else LcInv X.K T Fa (L2.wipe σ is) L I' H3 := by
  obtain ⟨acc, us, r', G', F1, ha1, S1, q⟩ := h
  obtain ⟨F', ef, S, rp⟩ := hJ.item S1.bas.ff S1 hi y
  have ha := RepL.mono ef _ _ ha1
  have fL : F' L = none := by
    cases e : F' L with
    | none => rfl
    | some u =>
      rcases S.bas.ft L u e with zz | zz
      · rw [hL] at zz; cases zz
      · rw [upd_same] at zz; cases zz
  have lk' : Lk X F' T := ⟨lk.t, lk.f.trans S.bas.ff, fun a o ho => (S.bas.ft a o ho).elim (fun z => lk.ft a o z) fun z => .inr (none_of lk.t (none_of (Ex.new hT) z))⟩
  refine lc_turnB lk' S.base hT fL ha rp hBk (fun Y hY T' l2 => hBl Y hY F' T' S.bas.ff l2) hte (hs acc r' G' q) fun acc' us' r2 G2 F2 H2 q2 ha2 S2 => ?_
  refine ⟨acc', us', r2, G2, F2, ha2, ⟨⟨S.bas.ff.trans S2.bas.ff, fun q u hq => ?_, S2.bas.fh, S2.bas.gh, S2.bas.fg, S2.bas.gt, S2.bas.tk⟩, S2.len, S2.sl, S2.ap⟩, q2⟩
  rcases S2.bas.ft q u hq with zz | zz
  · rcases S.bas.ft q u zz with yy | yy
    · exact .inl yy
    · by_cases hqL : q = L
      · subst hqL; rw [fL] at zz; cases zz
      · rw [upd_ne hqL] at yy ⊢; exact .inr yy
  · exact .inr zz
theorem lc_step {scope : Scope} {elt : Expr} {ifs : List Expr} {is : List Nat} {d : D} {J : It} {ds : List D} {i : Nat} {T Fa : Hp} {H H' : Hp} {σ : L2.St} {v : V} {L : Addr} {I I' : List D → Env2 → GD → Prop} (lk : Lk X Fa T) (hL : Fa L = none) (hT : T L = none) (hJ : ItD X.K J Fa ds) (hi : ds[i]? = some d) (h : LcInv X.K T Fa (L2.wipe σ is) L I H) (y : J.yld i H v H')
    (hs : ∀ acc r' G', I acc r' G' → LcTurn X scope tg elt ifs is d acc r' G' I') :
    blkG X scope tg v (L2.wipe σ is) H' fun σ2 H2 => L2.wipe σ2 is = L2.wipe σ is ∧ blkT X scope ifs σ2 H2 fun b H3 =>
      if b = true then blkE X scope elt σ2 H3 fun y H4 => ∃ acc', H4 L = some (.lst acc') ∧ acc'.length < sizeLine ∧ LcInv X.K T Fa (L2.wipe σ is) L I' (upd H4 L (.lst (acc' ++ [y]))) else LcInv X.K T Fa (L2.wipe σ is) L I' H3 :=
  lc_stepB (B := BlkX X scope) lk hL hT hJ hi h y (fun _ h => h.k) (fun _ h _ _ _ lk => h.lk lk) (fun _ _ _ h => h) hs
/-- [elt for tg in e if ..] -/
theorem lcI {scope : Scope} {elt : Expr} {ifs : List Expr} {own : List (Str × Nat)} {Q : Res → Env2 → GD → Prop} {F0 T F H : Hp} {σ : L2.St} (lk : Lk X F0 T) (S : Sta X.K F0 T F G H r σ)
    (h : WI X tg e r G fun ds r2 G1 => ∃ I : Nat → List D → Env2 → GD → Prop, I 0 [] (wipeD r2 (own.map (·.2))) G1 ∧ (∀ (k : Nat) (d : D) (acc : List D) (r3 : Env2) (G3 : GD), ds[k]? = some d → I k acc r3 G3 → LcTurn X scope tg elt ifs (own.map (·.2)) d acc r3 G3 (I (k + 1))) ∧
      ∀ acc r3 G3, I ds.length acc r3 G3 → Q (.fr (.lst acc)) r3 G3) : tLc (RunI X tg e) (blkG X scope tg) (blkT X scope ifs) (blkE X scope elt) (own.map (·.2)) σ H (PostE X.K F0 T F σ Q) := by
  refine (h F0 T F H σ lk S).mono fun J H1 ⟨ds, r2, G1, Fa, e1, Sa, hJ, I, i0, it, ie⟩ L hL => ?_
  obtain ⟨f1, f2, f3⟩ := Sa.bas.freshF hL
  refine ⟨fun i m H' => m = ds.length - i ∧ i ≤ ds.length ∧ LcInv X.K T Fa (L2.wipe σ (own.map (·.2))) L (I i) H', ⟨ds.length, by simp, Nat.zero_le _, lc_begin Sa hL i0⟩, ?_⟩
  rintro i m H' ⟨rfl, hi, hI⟩
  obtain ⟨_, _, _, _, F', _, S', _⟩ := id hI
  obtain ⟨j1, j2⟩ := hJ F' H' S'.bas.ff S'.bas.fh
  by_cases hlt : i < ds.length
  · obtain ⟨j3, _⟩ := j2 i ds[i] (List.getElem?_eq_getElem hlt)
    refine .inr ⟨j3, fun H2 => LcInv X.K T Fa (L2.wipe σ (own.map (·.2))) L (I (i + 1)) H2, fun H2 p2 => ⟨ds.length - (i + 1), by omega, rfl, hlt, p2⟩, fun x H2 y => ?_⟩
    exact lc_step (lk.base Sa.bas) f1 f3 hJ (List.getElem?_eq_getElem hlt) hI y fun acc r' G' q => it i ds[i] acc r' G' (List.getElem?_eq_getElem hlt) q
  · have e : i = ds.length := by omega
    subst e
    exact .inl ⟨j1, (lc_end Sa.bas hL (wk_wipe _ _) Sa hI fun acc r' G' q => ie acc r' G' q).ext e1⟩
theorem blkG_ok {scope : Scope} (s : Shared) (H : Hp) (C : Addr) (cl : List (Str × Addr)) (fp : List Addr) : PG (X.toCx.blk s H scope (compEnvC scope cl C X.env) fp) tg (blkG X scope tg) :=
  ⟨fun pins s' σ H' v u Q I rv h => h (X.blk s H scope (compEnvC scope cl C X.env) fp) ⟨s, H, C, cl, fp, rfl⟩ pins s' u I rv⟩
theorem blkE_ok {scope : Scope} {elt : Expr} (s : Shared) (H : Hp) (C : Addr) (cl : List (Str × Addr)) (fp : List Addr) : PE (X.toCx.blk s H scope (compEnvC scope cl C X.env) fp) elt (blkE X scope elt) :=
  ⟨fun pins s' σ H' Q I h => h (X.blk s H scope (compEnvC scope cl C X.env) fp) ⟨s, H, C, cl, fp, rfl⟩ pins s' I⟩
theorem we_lc {scope : Scope} {elt : Expr} {ifs : List Expr} (own : List (Str × Nat)) {Q : Res → Env2 → GD → Prop} (hc : X.calm = true) (hN : X.N.Nodup) (ok : BlkOk X.N X.env.scope scope own)
    (h : WI X tg e r G fun ds r2 G1 => ∃ I : Nat → List D → Env2 → GD → Prop, I 0 [] (wipeD r2 (own.map (·.2))) G1 ∧ (∀ (k : Nat) (d : D) (acc : List D) (r3 : Env2) (G3 : GD), ds[k]? = some d → I k acc r3 G3 → LcTurn X scope tg elt ifs (own.map (·.2)) d acc r3 G3 (I (k + 1))) ∧
      ∀ acc r3 G3, I ds.length acc r3 G3 → Q (.fr (.lst acc)) r3 G3) (hs : ∀ x, foldedSetIterable e X.env x = pure x := by intro _; rfl) : WE X (.ListComp elt [⟨tg, e, ifs, 0⟩] scope pos) r G Q := fun F0 T F H σ lk S =>
  Run.of (pe_lc hc hN piR ok blkG_ok blkT_ok blkE_ok hs) (lcI lk S h)
/-- y = [..] -/
theorem ws_setLc {scope : Scope} {elt : Expr} {ifs : List Expr} (own : List (Str × Nat)) (i : Nat) {y : Str} {py spos : Pos} (hc : X.calm = true) (hN : X.N.Nodup) (hy : X.N[i]? = some y) (hyl : X.env.scope.names.lookup y = some .local)
    (hsw : swapsWith (.ListComp elt [⟨tg, e, ifs, 0⟩] scope pos) (some (.Name y py)) spos.line X.env = pure true) (ok : BlkOk X.N X.env.scope scope own)
    (h : WI X tg e r G fun ds r2 G1 => ∃ I : Nat → List D → Env2 → GD → Prop, I 0 [] (wipeD r2 (own.map (·.2))) G1 ∧ (∀ (k : Nat) (d : D) (acc : List D) (r3 : Env2) (G3 : GD), ds[k]? = some d → I k acc r3 G3 → LcTurn X scope tg elt ifs (own.map (·.2)) d acc r3 G3 (I (k + 1))) ∧
      ∀ acc r3 G3, I ds.length acc r3 G3 → i < r3.length ∧ ∃ r2, putS r3 i (.fr (.lst acc)) = some r2 ∧ D0.nx r2 G3) (hs : ∀ x, foldedSetIterable e X.env x = pure x := by intro _; rfl) : WS X (.Assign [.Name y py] (.ListComp elt [⟨tg, e, ifs, 0⟩] scope pos) spos) r G D0 := fun F0 T F H σ lk S =>
  RunS.of (ps_setLc hc hN hy hyl hsw piR ok blkG_ok blkT_ok blkE_ok hs) (by
    have q := lcI (Q := fun y r1 G1 => i < r1.length ∧ ∃ r2, putS r1 i y = some r2 ∧ D0.nx r2 G1) (own := own) (scope := scope) (elt := elt) (ifs := ifs) lk S h
    refine RunI.mono q fun J H1 h1 L hL => ?_
    obtain ⟨W, w0, ws⟩ := h1 L hL
    refine ⟨W, w0, fun i' m H hW => (ws i' m H hW).imp (fun ⟨z1, z2⟩ => ⟨z1, ?_⟩) id⟩
    obtain ⟨y, r1, G1, F1, e1, S1, k1, hi, r2, q1, q2⟩ := z2
    obtain ⟨F2, e2, S2⟩ := S1.putS k1 hi q1
    exact ⟨r2, G1, F2, S2, q2⟩)
end
theorem Sta.gput {K : PySem.W.Frag} {F0 T F : Hp} {G : GD} {H : Hp} {r : Env2} {σ : L2.St} (S : Sta K F0 T F G H r σ) {b : Addr} {d0 d : D} (hG : G b = some d0) {o' : HO} (ho : Own K F (upd H b o') b d) : Sta K F0 T F (updG G b d) (upd H b o') r σ := by
  have f1 := S.bas.fg _ _ hG
  have f2 := S.bas.gt _ _ hG
  refine ⟨⟨S.bas.ff, S.bas.ft, fun a u e => ?_, fun a u e => ?_, fun a u e => ?_, fun a u e => ?_, fun a u e => ?_⟩, S.len, fun i s e => ?_, S.ap⟩
  · rw [upd_ne (ne_of_none e f1)]; exact S.bas.fh a u e
  · by_cases h : a = b
    · subst h; rw [updG_same] at e; cases e; exact ho
    · rw [updG_ne h] at e
      exact (S.bas.gh a u e).mono (Ex.refl _) fun o q => by rw [upd_ne h]; exact q
  · by_cases h : a = b
    · subst h; exact f1
    · rw [updG_ne h] at e; exact S.bas.fg a u e
  · by_cases h : a = b
    · subst h; exact f2
    · rw [updG_ne h] at e; exact S.bas.gt a u e
  · rw [upd_ne (ne_of_none e f2)]; exact S.bas.tk a u e
  · have q := S.sl i s e
    cases s with
    | no => trivial
    | sh d => exact q
    | own d =>
      obtain ⟨p, q1, q2, q3, q4, q5⟩ := q
      have hp : p ≠ b := fun z => by subst z; rw [q4] at hG; cases hG
      exact ⟨p, q1, q2.mono (Ex.refl _) (fun u hu => by rw [upd_ne hp]; exact hu), q3, by rw [updG_ne hp]; exact q4, q5⟩
/-- a new object of the open region -/
theorem Sta.gnew {K : PySem.W.Frag} {F0 T F : Hp} {G : GD} {H : Hp} {r : Env2} {σ : L2.St} (S : Sta K F0 T F G H r σ) {p : Addr} {d : D} (h : ResOk K T F G H r σ (.fr d) (.ref p)) : Sta K F0 T F (updG G p d) H r σ := by
  obtain ⟨p', e, h2, h3, h4, h5, h6⟩ := h
  cases e
  refine ⟨⟨S.bas.ff, S.bas.ft, S.bas.fh, fun a u e => ?_, fun a u e => ?_, fun a u e => ?_, S.bas.tk⟩, S.len, fun i s e => ?_, S.ap⟩
  · by_cases h : a = p
    · subst h; rw [updG_same] at e; cases e; exact h2
    · rw [updG_ne h] at e; exact S.bas.gh a u e
  · by_cases h : a = p
    · subst h; exact h3
    · rw [updG_ne h] at e; exact S.bas.fg a u e
  · by_cases h : a = p
    · subst h; exact h5
    · rw [updG_ne h] at e; exact S.bas.gt a u e
  · have q := S.sl i s e
    cases s with
    | no => trivial
    | sh d => exact q
    | own d =>
      obtain ⟨p', q1, q2, q3, q4, q5⟩ := q
      have hp : p' ≠ p := fun z => by subst z; exact h6 i d e q1
      exact ⟨p', q1, q2, q3, by rw [updG_ne hp]; exact q4, q5⟩
section
variable {X : Cy} {e e2 a b c o tg : Expr} {es : List Expr} {st : Stmt} {sts rest body orelse : List Stmt} {r : Env2} {G : GD} {pos tpos apos cpos p0 : Pos} {D0 : EndsD}
/-- a fresh result goes to the open region -/
theorem we_open {Q : Res → Env2 → GD → Prop} (h : WE X e r G fun x r1 G1 => ∃ d, x = .fr d ∧ ∀ p, G1 p = none → Q (.sh (.adr p)) r1 (updG G1 p d)) : WE X e r G Q := fun F0 T F H σ lk S =>
  (h F0 T F H σ lk S).mono fun v H1 ⟨x, r1, G1, F1, e1, S1, k1, d, hx, q⟩ => by
    subst hx
    obtain ⟨p, rfl, h2, h3, h4, h5, h6⟩ := id k1
    exact ⟨.sh (.adr p), r1, updG G1 p d, F1, e1, S1.gnew k1, rfl, q p h4⟩
/-- o[i] = e, o a list of the open region -/
theorem ws_setG (h : WE X e r G fun y r1 G1 => ∃ d r1', fz r1 y = some (d, r1') ∧ WE X o r1' G1 fun x r2 G2 => ∃ g, x = .sh (.adr g) ∧ WE X a r2 G2 fun z r3 G3 => ∃ k ds m, vw r3 z = some (.int k) ∧ G3 g = some (.lst ds) ∧ ixN ds.length k = some m ∧ D0.nx r3 (updG G3 g (.lst (ds.set m d))))
    (ha : ∀ v, assign (.Subscript o a tpos) X.env v = (do
      let ov ← holding [v] (eval o X.env)
      let iv ← holding [v, ov] (eval a X.env)
      standAt tpos
      holding [v, ov, iv] (setItem ov iv v)
      release [v, ov, iv] []) := by intro _; rfl)
    (hs : swapsWithSole [.Subscript o a tpos] e pos.line X.env = pure false := by rfl) (hw : swappedStores [.Subscript o a tpos] e X.env = pure none := by rfl)
    (h1 : (assignEach [.Subscript o a tpos] X.env).map (·.2) = [assign (.Subscript o a tpos) X.env] := by rfl) : WS X (.Assign [.Subscript o a tpos] e pos) r G D0 := fun F0 T F H σ lk S =>
  RunS.of (ps_asg peR (pg_sub peR peR set_list ha) hs hw h1) ((h F0 T F H σ lk S).mono fun v H1 ⟨y, r1, G1, F1, e1, S1, k1, d, r1', q1, q2⟩ => by
    obtain ⟨F1', e1', S1', rp⟩ := S1.fz k1 q1
    refine (q2 F0 T F1' H1 σ lk S1').mono fun vo H2 ⟨x, r2, G2, F2, e2, S2, k2, g, hx, q3⟩ => ?_
    subst hx
    cases (show vo = .ref g from k2)
    refine (q3 F0 T F2 H2 σ lk S2).mono fun vi H3 ⟨z, r3, G3, F3, e3, S3, k3, k, ds, m, q4, q5, q6, q7⟩ => ?_
    cases (S3.view k3 q4).int
    obtain ⟨vs, z1, z2⟩ := S3.bas.gh _ _ q5
    exact ⟨g, vs, k, m, rfl, rfl, z1, by rw [z2.length]; exact q6, r3, _, F3, S3.gput (d := .lst (ds.set m d)) q5 ⟨_, upd_same, z2.set m (Rep.mono (e2.trans e3) _ _ rp)⟩, q7⟩)
theorem mutG_end {id : String} {ds args : List D} {g : Addr} {F0 T F F1 H : Hp} {σ : L2.St} {us : List V} {Q : Res → Env2 → GD → Prop} (e1 : Ex F F1) (S : Sta X.K F0 T F1 G H r σ) (hg : G g = some (.lst ds)) (ha : RepL X.K F1 args us)
    (h : MutW X id ds args fun res ds' => Q (.sh res) r (updG G g (.lst ds'))) : mtU X id (.ref g) us H (PostE X.K F0 T F σ Q) := by
  obtain ⟨vs, h2, h3⟩ := S.bas.gh _ _ hg
  obtain ⟨rr, k1, k2⟩ := h F1 H g vs us h2 (S.bas.fg _ _ hg) S.bas.fh h3 ha
  refine ⟨_, MtR.post k1 _, k2, fun v' H' ⟨vs', res, ds', z1, z2, z3, z4⟩ => ?_⟩
  subst z1
  exact ⟨.sh res, _, _, F1, e1, S.gput (d := .lst ds') hg ⟨vs', upd_same, z3⟩, z2, z4⟩
theorem we_m1G {name : Str} {id : String} {Q : Res → Env2 → GD → Prop} (pa : PlainAttrs "list") (slot : Slot "list" name id) (hty : typeOf (.builtin id) = pure (.type "method_descriptor"))
    (h : WE X o r G fun x r1 G1 => ∃ g ds0, x = .sh (.adr g) ∧ G1 g = some (.lst ds0) ∧ WE X e r1 G1 fun y r2 G2 => ∃ d r3 ds, fz r2 y = some (d, r3) ∧ G2 g = some (.lst ds) ∧ MutW X id ds [d] fun res ds' => Q (.sh res) r3 (updG G2 g (.lst ds')))
    (hbase : attributeBase o name X.env (eval o X.env) = eval o X.env := by rfl)
    (hfew : ((backTo cpos (starEach [e] X.env)).all (fun x => !x.1) && (backToKw cpos (keywordEach [] X.env)).all (fun x => x.1.isSome) && decide (([e] : List Expr).length + ([] : List Keyword).length + (if ([] : List Keyword).isEmpty then 0 else 1) < 30)) = true := by rfl)
    (hline : (apos.endLine == cpos.line) = true := by rfl) (hs : starEach [e] X.env = (false, eval e X.env) :: starEach [] X.env := by rfl) (hplain : (backTo cpos (starEach [] X.env)).any (·.1) = false := by rfl) :
    WE X (.Call (.Attribute o name apos) [e] [] cpos) r G Q := fun F0 T F H σ lk S =>
  Run.of (pe_bm pa slot hty mtU_ok peR (pa_cons peR pa_nil hs) hbase hfew hline hs hplain) ((h F0 T F H σ lk S).mono fun v H1 ⟨x, r1, G1, F1, e1, S1, k1, g, ds0, hx, hg0, h1⟩ => by
    subst hx
    cases (show v = .ref g from k1)
    obtain ⟨vs, h2, h3⟩ := S1.bas.gh _ _ hg0
    refine ⟨.inl ⟨rfl, vs, .inl (.inl h2)⟩, (h1 F0 T F1 H1 σ lk S1).mono fun w H2 ⟨y, r2, G2, F2, e2, S2, k2, d, r3, ds, q1, q2, q3⟩ => ?_⟩
    obtain ⟨F3, e3, S3, rp⟩ := S2.fz k2 q1
    exact mutG_end ((e1.trans e2).trans e3) S3 q2 (.one rp) q3)
end
section
variable {X : Cy} {e a b c o tg : Expr} {es : List Expr} {st : Stmt} {sts rest body orelse : List Stmt} {r : Env2} {G : GD} {pos tpos apos cpos p0 : Pos} {D0 : EndsD}
theorem chain {op op' : CmpOp} {Q : Res → Env2 → GD → Prop} {F0 T F H : Hp} {σ : L2.St} (lk : Lk X F0 T) (S : Sta X.K F0 T F G H r σ)
    (h : WE X a r G fun x r1 G1 => WE X b r1 G1 fun y r2 G2 => ∃ da db, VwR r2 G2 x da ∧ VwR r2 G2 y db ∧ OpW X (compareOp op) da db fun z => ∃ k, z = .sh (.bl k) ∧ (k = true → WE X c r2 G2 fun w r3 G3 => ∃ db' dc, VwR r3 G3 y db' ∧ VwR r3 G3 w dc ∧ OpW X (compareOp op') db' dc fun u => Q u r3 G3) ∧ (k = false → Q (.sh (.bl false)) r2 G2)) :
    tChain (opU X (compareOp op)) (opU X (compareOp op')) (Run X a) (Run X b) (Run X c) σ H (PostE X.K F0 T F σ Q) := by
  refine (h F0 T F H σ lk S).mono fun va H1 ⟨x, r1, G1, F1, e1, S1, k1, h1⟩ => ?_
  obtain ⟨F1', e1', S1', hv⟩ := hold S1 k1
  refine (h1 F0 T F1' H1 σ lk S1').mono fun vb H2 ⟨y, r2, G2, F2, e2, S2, k2, da, db, q1, q2, q3⟩ => ?_
  obtain ⟨F2', e2', S2', hw⟩ := hold S2 k2
  obtain ⟨rr, h3, h4⟩ := q3 F0 T F2' G2 H2 r2 σ va vb S2' (hv F2' G2 H2 r2 da (e2.trans e2') S2' q1) (hw F2' G2 H2 r2 db (Ex.refl _) S2' q2)
  refine ⟨_, (show OpR X (compareOp op) (fun u w H Q' => rr u w H _ ∧ ∀ v H', _ → Q' v H') from fun pins s σ H x y v u Q' I rx ry ⟨q, m⟩ => wpAny_mono (h3 pins s σ H x y v u _ I rx ry q) (fun _ _ ⟨v, H', I', rl, q⟩ => ⟨v, H', I', rl, m v H' q⟩) fun _ _ x => x), h4, fun v H3 ⟨z, F3, e3, S3, k3, k, hz, m1, m2⟩ => ?_⟩
  subst hz
  refine ⟨k, k3, ?_⟩
  cases k with
  | false =>
    rw [if_neg Bool.false_ne_true]
    exact ⟨.sh (.bl false), r2, G2, F3, (((e1.trans e1').trans e2).trans e2').trans e3, S3, rfl, m2 rfl⟩
  | true =>
    rw [if_pos rfl]
    refine (m1 rfl F0 T F3 H3 σ lk S3).mono fun vc H4 ⟨w, r3, G3, F4, e4, S4, k4, db', dc, n1, n2, n3⟩ => ?_
    obtain ⟨rr2, h5, h6⟩ := n3 F0 T F4 G3 H4 r3 σ vb vc S4 (hw F4 G3 H4 r3 db' (e3.trans e4) S4 n1) (S4.viewR k4 n2)
    exact ⟨_, (show OpR X (compareOp op') (fun u w H Q' => rr2 u w H _ ∧ ∀ v H', _ → Q' v H') from fun pins s σ H x y v u Q' I rx ry ⟨q, m⟩ => wpAny_mono (h5 pins s σ H x y v u _ I rx ry q) (fun _ _ ⟨v, H', I', rl, q⟩ => ⟨v, H', I', rl, m v H' q⟩) fun _ _ x => x), h6, fun v H' ⟨z, F', l1, l2, l3, l4⟩ => ⟨z, r3, G3, F', (((((e1.trans e1').trans e2).trans e2').trans e3).trans e4).trans l1, l2, l3, l4⟩⟩
theorem we_chain {op op' : CmpOp} {Q : Res → Env2 → GD → Prop}
    (h : WE X a r G fun x r1 G1 => WE X b r1 G1 fun y r2 G2 => ∃ da db, VwR r2 G2 x da ∧ VwR r2 G2 y db ∧ OpW X (compareOp op) da db fun z => ∃ k, z = .sh (.bl k) ∧ (k = true → WE X c r2 G2 fun w r3 G3 => ∃ db' dc, VwR r3 G3 y db' ∧ VwR r3 G3 w dc ∧ OpW X (compareOp op') db' dc fun u => Q u r3 G3) ∧ (k = false → Q (.sh (.bl false)) r2 G2))
    (hm : lastMarks [op, op'] [b, c] = false := by with_unfolding_all rfl) : WE X (.Compare a [op, op'] [b, c] pos) r G Q := fun F0 T F H σ lk S => Run.of (pe_chain (opU_ok _) (opU_ok _) peR peR peR hm) (chain lk S h)
/-- lo <= x <= hi on ints -/
theorem we_chainI {op op' : CmpOp} {p q : Int → Int → Bool} {Q : Res → Env2 → GD → Prop} (ho : ∀ (i j : Int) (R : Res → Prop), R (.sh (.bl (p i j))) → OpW X (compareOp op) (.int i) (.int j) R) (ho' : ∀ (i j : Int) (R : Res → Prop), R (.sh (.bl (q i j))) → OpW X (compareOp op') (.int i) (.int j) R)
    (h : WE X a r G fun x r1 G1 => WE X b r1 G1 fun y r2 G2 => ∃ i j k, vw r2 x = some (.int i) ∧ vw r2 y = some (.int j) ∧ (p i j = true → WE X c r2 G2 fun w r3 G3 => r3 = r2 ∧ G3 = G2 ∧ vw r3 w = some (.int k)) ∧ Q (.sh (.bl (p i j && q j k))) r2 G2)
    (hm : lastMarks [op, op'] [b, c] = false := by with_unfolding_all rfl) : WE X (.Compare a [op, op'] [b, c] pos) r G Q :=
  we_chain (h.mono fun x r1 G1 h1 => h1.mono fun y r2 G2 ⟨i, j, k, q1, q2, q3, q4⟩ => ⟨_, _, .inl q1, .inl q2, ho i j _ ⟨p i j, rfl, fun hp => (q3 hp).mono fun w r3 G3 ⟨m1, m2, m3⟩ => ⟨_, _, .inl (by rw [m1]; exact q2), .inl m3, ho' j k _ (by subst m1 m2; rw [hp, Bool.true_and] at q4; exact q4)⟩, fun hp => by rw [hp, Bool.false_and] at q4; exact q4⟩⟩) hm
theorem wt_chainI {op op' : CmpOp} {p q : Int → Int → Bool} {Q : Bool → Env2 → GD → Prop} (ho : ∀ (i j : Int) (R : Res → Prop), R (.sh (.bl (p i j))) → OpW X (compareOp op) (.int i) (.int j) R) (ho' : ∀ (i j : Int) (R : Res → Prop), R (.sh (.bl (q i j))) → OpW X (compareOp op') (.int i) (.int j) R)
    (h : WE X a r G fun x r1 G1 => WE X b r1 G1 fun y r2 G2 => ∃ i j k, vw r2 x = some (.int i) ∧ vw r2 y = some (.int j) ∧ (p i j = true → WE X c r2 G2 fun w r3 G3 => r3 = r2 ∧ G3 = G2 ∧ vw r3 w = some (.int k)) ∧ Q (p i j && q j k) r2 G2)
    (hm : lastMarks [op, op'] [b, c] = false := by with_unfolding_all rfl) : WT X (.Compare a [op, op'] [b, c] pos) r G Q := fun F0 T F H σ lk S =>
  RunT.of (pt_chain (opU_ok _) (opU_ok _) peR peR peR hm) (by
    have base := we_chainI (pos := pos) (Q := isB Q) ho ho' (h.mono fun x r1 G1 h1 => h1.mono fun y r2 G2 ⟨i, j, k, q1, q2, q3, q4⟩ => ⟨i, j, k, q1, q2, q3, ⟨_, rfl, q4⟩⟩) hm
    have z := chain (Q := isB Q) lk S (h.mono fun x r1 G1 h1 => h1.mono fun y r2 G2 ⟨i, j, k, q1, q2, q3, q4⟩ => ⟨_, _, .inl q1, .inl q2, ho i j _ ⟨p i j, rfl, fun hp => (q3 hp).mono fun w r3 G3 ⟨m1, m2, m3⟩ => ⟨_, _, .inl (by rw [m1]; exact q2), .inl m3, ho' j k _ (by subst m1 m2; rw [hp, Bool.true_and] at q4; exact ⟨_, rfl, q4⟩)⟩, fun hp => by rw [hp, Bool.false_and] at q4; exact ⟨_, rfl, q4⟩⟩⟩)
    refine Run.mono z fun va H1 z1 => Run.mono z1 fun vb H2 ⟨rr, h3, h4⟩ => ⟨_, (show OpR X (compareOp op) (fun u w H Q' => rr u w H _ ∧ ∀ v H', _ → Q' v H') from fun pins s σ H x y v u Q' I rx ry ⟨q, m⟩ => wpAny_mono (h3 pins s σ H x y v u _ I rx ry q) (fun _ _ ⟨v, H', I', rl, q⟩ => ⟨v, H', I', rl, m v H' q⟩) fun _ _ x => x), h4, fun v H3 ⟨k, hk, hz⟩ => ⟨k, hk, ?_⟩⟩
    cases k with
    | false => rw [if_neg Bool.false_ne_true] at hz ⊢; exact postB hz
    | true =>
      rw [if_pos rfl] at hz ⊢
      refine Run.mono hz fun vc H4 ⟨rr2, h5, h6⟩ => ⟨_, (show OpR X (compareOp op') (fun u w H Q' => rr2 u w H _ ∧ ∀ v H', _ → Q' v H') from fun pins s σ H x y v u Q' I rx ry ⟨q, m⟩ => wpAny_mono (h5 pins s σ H x y v u _ I rx ry q) (fun _ _ ⟨v, H', I', rl, q⟩ => ⟨v, H', I', rl, m v H' q⟩) fun _ _ x => x), h6, fun v H' z' => postB z'⟩)
theorem ww_andB {Q : Bool → Env2 → GD → Prop} (h : WT X a r G fun c1 r1 G1 => ∃ c2, (c1 = true → WW X (.BoolOp .And (b :: es) pos) r1 G1 fun d r2 G2 => d = c2 ∧ r2 = r1 ∧ G2 = G1) ∧ Q (c1 && c2) r1 G1) : WW X (.BoolOp .And (a :: b :: es) pos) r G Q :=
  ww_and (h.mono fun c1 r1 G1 ⟨c2, h1, h2⟩ => ⟨fun hc => fun F0 T F H σ lk S w pins s I => wpAny_mono (h1 hc F0 T F H σ lk S w pins s I) (fun _ _ ⟨H', I', r', G', F', k1, k2, k3, k4, k5⟩ => ⟨H', I', r', G', F', k1, k2, by subst k3 k4 k5; rw [hc, Bool.true_and] at h2; exact h2⟩) fun _ _ x => x, fun hc => by rw [hc, Bool.false_and] at h2; exact h2⟩)
theorem ww_orB {Q : Bool → Env2 → GD → Prop} (h : WT X a r G fun c1 r1 G1 => ∃ c2, (c1 = false → WW X (.BoolOp .Or (b :: es) pos) r1 G1 fun d r2 G2 => d = c2 ∧ r2 = r1 ∧ G2 = G1) ∧ Q (c1 || c2) r1 G1) : WW X (.BoolOp .Or (a :: b :: es) pos) r G Q :=
  ww_or (h.mono fun c1 r1 G1 ⟨c2, h1, h2⟩ => ⟨fun hc => fun F0 T F H σ lk S w pins s I => wpAny_mono (h1 hc F0 T F H σ lk S w pins s I) (fun _ _ ⟨H', I', r', G', F', k1, k2, k3, k4, k5⟩ => ⟨H', I', r', G', F', k1, k2, by subst k3 k4 k5; rw [hc, Bool.false_or] at h2; exact h2⟩) fun _ _ x => x, fun hc => by rw [hc, Bool.true_or] at h2; exact h2⟩)
structure Cal (P : Program) (w : World) (K : PySem.W.Frag) (mg : Str → Option Value) (base : Heap) (x : Str) (k : Nat) (ps : List Str) (sp : FSp) : Prop where
  ex : ∃ (f : Addr) (fd : FuncData), FnOk P w K mg base (CX P w) k f fd ps (spD K sp) ∧ mg x = some (.ref f) ∧ PySem.W.keepIn K (.ref f) = true ∧ Binds K fd ps []
theorem we_cal {x : Str} {k j : Nat} {ps : List Str} {sp : FSp} {Q : Res → Env2 → GD → Prop} (tk : X.Tk) (C : Cal X.prog X.w X.K X.mg X.base x k ps sp) (hr : Room j X.A) (hg : Gl X x) (h : WA X (e :: es) r G fun ds r1 G1 => sp ds G1 (fun z G2 => Q z r1 G2) (fun x G2 => X.QX x r1 G2)) (hj : k ≤ j := by omega)
    (hdb : (x == ("__debug__" : Str)) = false := by decide) (he : starEach (e :: es) X.env = (false, eval e X.env) :: starEach es X.env := by rfl) (hpl : (backTo pos (starEach es X.env)).any (·.1) = false := by rfl) : WE X (.Call (.Name x p0) (e :: es) [] pos) r G Q := by
  obtain ⟨f, fd, h1, h2, h3, h4⟩ := C.ex
  exact we_call tk h1 (hr.mono hj) hg h2 h3 h4 h hdb he hpl
structure PropD (P : Program) (w : World) (K : PySem.W.Frag) (mg : Str → Option Value) (base : Heap) (C : Addr) (f : Str) (k : Nat) (sp : FSp) : Prop where
  ex : ∃ (p g : Addr) (fd : FuncData), PySem.W.findIn K (.ref C) f = some (some (.ref p)) ∧ PySem.W.specialIn K (.ref p) "__get__" = some (some (.builtin "property.__get__")) ∧ PySem.W.takesIn K (.ref p) = some true ∧ (∃ rest, PySem.W.recIn K p "property" = some (.ref g :: rest)) ∧
    FnOk P w K mg base (CX P w) k g fd ["self"] (spD K sp) ∧ Binds K fd ["self"] []
theorem fnr {P : Program} {w : World} {K : PySem.W.Frag} {mg : Str → Option Value} {base : Heap} {CX : CXT} {k : Nat} {f : Addr} {fd : FuncData} {ps : List Str} {sp : Sp} (F : FnOk P w K mg base CX k f fd ps sp) (hb : Binds K fd ps []) : FnR P w K mg base CX k f sp :=
  (F.raw hb .nil).imp fun vs H Q E h => by rw [List.append_nil]; exact h
/-- a promise met from a state, no exception leaves -/
theorem spD_of0 {F0 T F F1 H : Hp} {σ : L2.St} {sp : FSp} {ds : List D} {vs : List V} {Q : Res → Env2 → GD → Prop} (S : Sta X.K F0 T F1 G H r σ) (e1 : Ex F F1) (ha : RepL X.K F1 ds vs) (h : sp ds G (fun z G2 => Q z r G2) (fun _ _ => False)) : spD X.K sp vs H (PostE X.K F0 T F σ Q) (fun _ _ _ => False) :=
  ⟨F1, G, ds, _, _, S.bas.fh, S.bas.gh, S.bas.fg, ha, h, fun x G' v H' F' hp B rt => ⟨x, r, G', F', e1.trans B.ff, S.after B, ResOk.after S B rt, hp⟩, fun x cls d G' H' F' hp B ex => hp⟩
theorem we_prop {f : Str} {C : Addr} {k j : Nat} {sp : FSp} {Q : Res → Env2 → GD → Prop} (c : SlX.SCls X.K C) (p : PropD X.prog X.w X.K X.mg X.base C f k sp) (hr : Room j X.A) (h : WE X e r G fun x r1 G1 => ∃ ds, vw r1 x = some (.ins C ds) ∧ sp [.ins C ds] G1 (fun z G2 => Q z r1 G2) (fun _ _ => False)) (hj : k + 1 ≤ j := by omega)
    (hb : attributeBase e f X.env (eval e X.env) = eval e X.env := by rfl) : WE X (.Attribute e f pos) r G Q := fun F0 T F H σ lk S => by
  obtain ⟨pa, g, fd, h1, h2, h3, h4, h5, h6⟩ := p.ex
  refine Run.of (SlX.pe_propSl (E := fun _ _ _ => False) peR c h1 h2 h3 h4 (fnr h5 h6) (hr.mono hj) (fun _ _ _ _ ⟨_, _, _, _, _, _, _, _, _, _, _, _, z⟩ => z) hb) ((h F0 T F H σ lk S).mono fun v H1 ⟨x, r1, G1, F1, e1, S1, k1, ds, q1, q2⟩ => ?_)
  obtain ⟨F1', e1', S1', hv⟩ := hold S1 k1
  have vv := hv F1' G1 H1 r1 _ (Ex.refl _) S1' (.inl q1)
  have rp : Rep X.K F1' (.ins C ds) v := by
    rcases vv with z | ⟨_, _, z⟩
    · exact z
    · exact z.elim
  obtain ⟨a, dx, vs, rfl, z1, z2⟩ := vv.ins S1'.bas.fh
  exact ⟨a, dx, vs.map some, rfl, z1, spD_of0 S1' (e1.trans e1') (.one rp) q2⟩
/-- a slot is read -/
theorem we_fld {f : Str} {C p : Addr} (i : Nat) {Q : Res → Env2 → GD → Prop} (c : SlX.SCls X.K C) (t : SlX.Slot1 X.K C f p i) (h : WE X e r G fun x r1 G1 => ∃ ds d, vw r1 x = some (.ins C ds) ∧ ds[i]? = some d ∧ Q (.sh d) r1 G1)
    (hb : attributeBase e f X.env (eval e X.env) = eval e X.env := by rfl) : WE X (.Attribute e f pos) r G Q := fun F0 T F H σ lk S => by
  refine Run.of (SlX.pe_sl peR hb) ((h F0 T F H σ lk S).mono fun v H1 ⟨x, r1, G1, F1, e1, S1, k1, ds, d, q1, q2, q3⟩ => ?_)
  obtain ⟨a, dx, vs, rfl, z1, z2⟩ := (S1.view k1 q1).ins S1.bas.fh
  obtain ⟨w, y1, y2⟩ := z2.get q2
  exact ⟨a, C, dx, p, vs.map some, i, w, rfl, z1, c, t, by rw [List.getElem?_map, y1]; rfl, .sh d, r1, G1, F1, e1, S1, y2, q3⟩
structure MethD (P : Program) (w : World) (K : PySem.W.Frag) (mg : Str → Option Value) (base : Heap) (C : Addr) (m : Str) (k : Nat) (ps : List Str) (sp : FSp) : Prop where
  ex : ∃ (g : Addr) (fd : FuncData), Meth K C m g ∧ FnOk P w K mg base (CX P w) k g fd ps (spD K sp) ∧ Binds K fd ps []
/-- as HandS.Slots' own, the wish by the slots -/
theorem run_fnRS {X : Cx} {CX : CXT} {k : Nat} {f : Addr} {sp : Sp} {E : L2.St → XK} {pins : List (Addr × Obj)} {σ : L2.St} {H : Hp} {s : Shared} {Q : VK} {us : List Value} {vs : List V} (F : FnR X.prog X.w X.K X.mg X.base CX k f sp) (hr : Room k X.A) (hx : PassesAt CX X σ (E σ)) (I : Inv X pins σ H s) (r : Vals vs us) (q : sp vs H Q (E σ)) :
    wpAny (model X.prog X.w) X.A (call (.ref f) us) (EP X pins σ Q) X.xe s := by
  refine wpAny_call (codeAny_mono (F X.A X.stack s H us vs Q (E σ) hr I.env0 r q) fun r s' hq => ?_)
  cases r with
  | error e => exact hx pins H s e s' I hq
  | ok fl =>
    cases fl with
    | ret u => exact I.after hq
    | next => exact False.elim hq
    | brk => exact False.elim hq
    | cont => exact False.elim hq
def tMethSlS (C : Addr) (sp : Sp) (E : L2.St → XK) (ta : TE) (t : TA) : TE := fun σ H Q => ta σ H fun x H1 => ∃ a dx vs, x = .ref a ∧ SlX.Slt H1 a C dx vs ∧ t σ H1 fun ws H2 => sp (x :: ws) H2 Q (E σ)
theorem pe_methSl0S {X : Cx} {m : Str} {ta : TE} {CX : CXT} {k : Nat} {C g : Addr} {sp : Sp} {E : L2.St → XK} {pl : Sem Bool} (he : PE X o ta) (c : SlX.SCls X.K C) (hm : Meth X.K C m g) (F : FnR X.prog X.w X.K X.mg X.base CX k g sp) (hr : Room k X.A) (hx : ∀ σ, PassesAt CX X σ (E σ))
    (ht : eval (.Call (.Attribute o m apos) [] [] pos) X.env = (do
      let ov ← eval o X.env
      standAt apos.atName
      let (f, first) ← holding [ov] (getMethod ov m pl)
      callWith pos f first (backTo pos (starEach [] X.env)) (backToKw pos (keywordEach [] X.env))) := by rfl) :
    PE X (.Call (.Attribute o m apos) [] [] pos) (tMethSlS C sp E ta tNil) := by
  refine ⟨fun pins s σ H Q I h => ?_⟩
  refine PySem.W.methodCall_KW (pl := pl) (thn (he.run pins s σ H _ I h) fun u s1 ⟨x, H1, I1, rx, a, dx, vs, ex, hsl, q⟩ => ?_) ht
  subst ex
  obtain rfl : u = Value.ref a := rx
  refine SlX.getmethsl_ok I1 hsl c hm ?_
  exact PySem.W.callWith_K0 (first := [.ref a]) I1.kIn hm.kp (run_fnRS (us := [.ref a]) (vs := [.ref a]) F hr (hx σ) I1 (.cons rfl .nil) q)
theorem we_meth0 {m : Str} {C : Addr} {k j : Nat} {ps : List Str} {sp : FSp} {pl : Sem Bool} {Q : Res → Env2 → GD → Prop} (tk : X.Tk) (c : SlX.SCls X.K C) (p : MethD X.prog X.w X.K X.mg X.base C m k ps sp) (hr : Room j X.A) (h : WE X o r G fun x r1 G1 => ∃ ds, vw r1 x = some (.ins C ds) ∧ sp [.ins C ds] G1 (fun z G2 => Q z r1 G2) (fun x G2 => X.QX x r1 G2)) (hj : k ≤ j := by omega)
    (ht : eval (.Call (.Attribute o m apos) [] [] pos) X.env = (do
      let ov ← eval o X.env
      standAt apos.atName
      let (f, first) ← holding [ov] (getMethod ov m pl)
      callWith pos f first (backTo pos (starEach [] X.env)) (backToKw pos (keywordEach [] X.env))) := by rfl) : WE X (.Call (.Attribute o m apos) [] [] pos) r G Q := fun F0 T F H σ lk S => by
  obtain ⟨g, fd, h1, h2, h3⟩ := p.ex
  refine Run.of (pe_methSl0S (pl := pl) peR c h1 (fnr h2 h3) (hr.mono hj) (fun σ => passAt tk σ) ht) ((h F0 T F H σ lk S).mono fun v H1 ⟨x, r1, G1, F1, e1, S1, k1, ds, q1, q2⟩ => ?_)
  obtain ⟨F1', e1', S1', hv⟩ := hold S1 k1
  have vv := hv F1' G1 H1 r1 _ (Ex.refl _) S1' (.inl q1)
  have rp : Rep X.K F1' (.ins C ds) v := by
    rcases vv with z | ⟨_, _, z⟩
    · exact z
    · exact z.elim
  obtain ⟨a, dx, vs, rfl, z1, z2⟩ := vv.ins S1'.bas.fh
  exact ⟨a, dx, vs.map some, rfl, z1, spD_of lk S1' (e1.trans e1') (.one rp) q2⟩
/-- the class of data, as far as isinstance asks -/
def tyD : D → Option Value
  | .non => some (.type "NoneType")
  | .bl _ => some (.type "bool")
  | .int _ => some (.type "int")
  | .str _ => some (.type "str")
  | .tup _ => some (.type "tuple")
  | .lst _ => some (.type "list")
  | .dic _ _ => some (.type "dict")
  | _ => none
theorem tyX_of {K : PySem.W.Frag} {F H : Hp} {d : D} {v : V} {t : Value} (ex : Ex F H) (h : Vw K F H d v) (e : tyD d = some t) : TyX K H v t := by
  cases d with
  | non => cases e; cases h.non; exact .base .non
  | bl b => cases e; cases h.bl; exact .base (.bl b)
  | int b => cases e; cases h.int; exact .base (.int b)
  | str b => cases e; cases h.str; exact .base (.str b)
  | tup ds =>
    cases e
    obtain ⟨a, vs, rfl, z1, _⟩ := h.tup ex
    rcases z1 with (z | ⟨ob, z⟩) | ⟨ob, its, n, z, zc, _⟩
    · exact .base (.tup z)
    · exact .fTuple z
    · exact .kTuple z zc
  | lst ds =>
    cases e
    obtain ⟨a, vs, rfl, z1, _⟩ := h.lst ex
    rcases z1 with z | ⟨ob, z⟩
    · exact .base (.lst z)
    · exact .base (.frz z)
  | dic ks ds =>
    cases e
    obtain ⟨a, vs, rfl, z1, _⟩ := h.dic ex
    rcases z1 with z | ⟨ob, z⟩
    · exact .base (.dK z)
    · exact .fDict z
  | ins C ds => cases e
  | adr a => cases e
  | obj _ _ _ => cases e
  | slo _ _ _ _ => cases e
  | xdo _ _ => cases e
  | scr _ => cases e
  | tab _ => cases e
  | hob _ _ => cases e
  | kd _ _ _ => cases e
/-- isinstance(x, T), T a built-in class -/
theorem we_isi {x y : Str} {n : String} {py : Pos} {Q : Res → Env2 → GD → Prop} (hg : Gl X x) (hm : X.mg x = none) (hv : bootBuiltins x = some (.builtin "isinstance")) (hg2 : Gl X y) (hm2 : X.mg y = none) (hv2 : bootBuiltins y = some (.type n))
    (h : WE X a r G fun z r1 G1 => ∃ d t c, VwR r1 G1 z d ∧ tyD d = some t ∧ PySem.W.kitOne X.K t (.type n) = some c ∧ Q (.sh (.bl c)) r1 G1)
    (hn : x ≠ "__name__" := by decide) (hdb : (x == ("__debug__" : Str)) = false := by decide) (hn2 : y ≠ "__name__" := by decide) (hdb2 : (y == ("__debug__" : Str)) = false := by decide)
    (he : starEach [a, .Name y py] X.env = (false, eval a X.env) :: starEach [.Name y py] X.env := by rfl) (he2 : starEach [.Name y py] X.env = (false, eval (.Name y py) X.env) :: starEach [] X.env := by rfl) (hpl : (backTo pos (starEach [.Name y py] X.env)).any (·.1) = false := by rfl) :
    WE X (.Call (.Name x p0) [a, .Name y py] [] pos) r G Q := fun F0 T F H σ lk S =>
  Run.of (pe_callB call_isi hg hm hv (pa_cons peR (pa_cons (pe_bltn (v := .ty n) hg2 hm2 hv2 rfl hn2 hdb2) pa_nil he2) he) hn hdb he hpl) ((h F0 T F H σ lk S).mono fun v H1 ⟨z, r1, G1, F1, e1, S1, k1, d, t, c, q1, q2, q3, q4⟩ =>
    ⟨v, .ty n, t, .type n, c, rfl, .ty n, tyX_of S1.bas.fh (S1.viewR k1 q1) q2, q3, .sh (.bl c), r1, G1, F1, e1, S1, rfl, q4⟩)
abbrev FSpI := List D → GD → (List D → GD → Prop) → (Exn → GD → Prop) → Prop
def spI (K : PySem.W.Frag) (C : Addr) (f : FSpI) : Sp := fun vs H Q E => ∃ (x dx : Addr) (us : List V) (F : Hp) (G : GD) (ds : List D) (post : List D → GD → Prop) (px : Exn → GD → Prop), vs = .ref x :: us ∧ H x = some (.ins C dx []) ∧ H dx = some (.own x) ∧ dx ≠ x ∧ F x = none ∧ F dx = none ∧ G x = none ∧ G dx = none ∧
  Ex F H ∧ (∀ a d, G a = some d → Own K F H a d) ∧ (∀ a o, G a = some o → F a = none) ∧ RepL K F ds us ∧ f ds G post px ∧
  (∀ ys G' H' F', post ys G' → Bas K F (fun a => if a = x ∨ a = dx then none else Tof G H a) F' G' H' → Rep K F' (.ins C ys) (.ref x) → Q .non H') ∧
  ∀ xn cls d G' H' F', px xn G' → Bas K F (fun a => if a = x ∨ a = dx then none else Tof G H a) F' G' H' → ExOk K F' cls d xn → E cls d H'
structure MakeD (P : Program) (w : World) (K : PySem.W.Frag) (mg : Str → Option Value) (base : Heap) (x : Str) (C : Addr) (k : Nat) (ps : List Str) (f : FSpI) : Prop where
  ex : ∃ (g : Addr) (fd : FuncData), Mk K C g ∧ mg x = some (.ref C) ∧ FnOk P w K mg base (CX P w) k g fd ps (spI K C f) ∧ Binds K fd ps []
def tMakeS (C : Addr) (sp : Sp) (E : L2.St → XK) (t : TA) : TE := fun σ H Q => t σ H fun vs H1 => ∀ x dx, H1 x = none → H1 dx = none → dx ≠ x →
  sp (.ref x :: vs) (upd (upd H1 dx (.own x)) x (.ins C dx [])) (fun v H2 => v = .non ∧ Q (.ref x) H2) (E σ)
theorem run_makeS {X : Cx} {CX : CXT} {k : Nat} {f C : Addr} {fd : FuncData} {ps : List Str} {sp : Sp} {E : L2.St → XK} {pins : List (Addr × Obj)} {σ : L2.St} {H : Hp} {s : Shared} {Q : VK} {us : List Value} {vs : List V} (M : Mk X.K C f) (F : FnOk X.prog X.w X.K X.mg X.base CX k f fd ps sp) (hr : Room (k + 1) X.A) (hb : Binds X.K fd ps [])
    (hx : PassesAt CX X σ (E σ)) (I : Inv X pins σ H s) (r : Vals vs us)
    (h : ∀ x dx, H x = none → H dx = none → dx ≠ x → sp (.ref x :: vs) (upd (upd H dx (.own x)) x (.ins C dx [])) (fun v H2 => v = .non ∧ Q (.ref x) H2) (E σ)) :
    wpAny (model X.prog X.w) X.A (call (.ref C) us) (EP X pins σ Q) X.xe s := by
  have hq := h (s.heap.objs.size + 1) s.heap.objs.size (I.hok.fresh (Nat.le_succ _)) (I.hok.fresh (Nat.le_refl _)) (Nat.ne_of_lt (Nat.lt_succ_self _))
  have I2 := Inv.made (C := C) I
  have r2 : Vals (V.ref (s.heap.objs.size + 1) :: vs) (Value.ref (s.heap.objs.size + 1) :: us) := .cons rfl r
  have hl : (Value.ref (s.heap.objs.size + 1) :: us ++ []).length = ps.length := by
    rw [List.append_nil]
    have e := r2.length
    rw [F.len _ _ _ _ hq] at e
    exact e.symm
  have hbb := hb _ (Value.ref (s.heap.objs.size + 1) :: us) I2.kIn hl
  rw [List.append_nil] at hbb
  refine wpAny_call (make_map (f := f) I.kIn M.makes M.init (beq_iff_eq.mp M.fn) (codeAny_mono (F.run _ X.stack _ _ ⟨Value.ref (s.heap.objs.size + 1) :: us, []⟩ (Value.ref (s.heap.objs.size + 1) :: us) _ _ (E σ) (hr.make C us [])
    (I2.env0.make C us []) hbb r2 hq) fun r s' hq' => ?_))
  cases r with
  | error e => exact hx pins _ _ e s' I2 hq'
  | ok fl =>
    cases fl with
    | ret u =>
      obtain ⟨v, H', I3, rv, ev, q3⟩ := I2.after hq'
      subst ev
      exact ⟨rv, ⟨V.ref (s.heap.objs.size + 1), H', I3, rfl, q3⟩⟩
    | next => exact False.elim hq'
    | brk => exact False.elim hq'
    | cont => exact False.elim hq'
theorem pe_makeS {X : Cx} {CX : CXT} {k : Nat} {f C : Addr} {fd : FuncData} {ps : List Str} {sp : Sp} {E : L2.St → XK} {x : Str} {p : Pos} {t : TA} (M : Mk X.K C f) (F : FnOk X.prog X.w X.K X.mg X.base CX k f fd ps sp) (hr : Room (k + 1) X.A) (hg : Gl X x) (hm : X.mg x = some (.ref C)) (hb : Binds X.K fd ps []) (hx : ∀ σ, PassesAt CX X σ (E σ))
    (ha : PA X (e :: es) t) (hdb : (x == ("__debug__" : Str)) = false := by decide) (he : starEach (e :: es) X.env = (false, eval e X.env) :: starEach es X.env := by rfl) (hpl : (backTo pos (starEach es X.env)).any (·.1) = false := by rfl) :
    PE X (.Call (.Name x p) (e :: es) [] pos) (tMakeS C sp E t) := by
  refine ⟨fun pins s σ H Q I h => ?_⟩
  refine wpAny_Call_Name_kw (ld_glob I hg hm ?_ hdb)
  refine PySem.W.callWith_K (h₀ := X.base) I.ok.mod.kin M.kp (thn (ha.run pos pins s σ H _ I h) fun us s1 ⟨vs, H1, I1, r, q⟩ => ⟨I1.kIn, ?_⟩) he hpl
  exact run_makeS M F hr hb (hx σ) I1 r q
theorem make_base {K : PySem.W.Frag} {F1 F' H1 H' : Hp} {G1 G' : GD} {ad dx C : Addr} (ha : H1 ad = none) (hd : H1 dx = none) (ex1 : Ex H1 (upd (upd H1 dx (.own ad)) ad (.ins C dx [])))
    (B : Bas K F1 (fun a => if a = ad ∨ a = dx then none else Tof G1 (upd (upd H1 dx (.own ad)) ad (.ins C dx [])) a) F' G' H') : Bas K F1 (Tof G1 H1) F' G' H' := by
  have sub : ∀ q u, Tof G1 H1 q = some u → (if q = ad ∨ q = dx then none else Tof G1 (upd (upd H1 dx (.own ad)) ad (.ins C dx [])) q) = some u := fun q u hq => by
    have hG : G1 q = none := by
      cases eg : G1 q with
      | none => rfl
      | some o => rw [Tof_some eg] at hq; cases hq
    rw [Tof_none hG] at hq
    have n1 : q ≠ ad := ne_of_none hq ha
    have n2 : q ≠ dx := ne_of_none hq hd
    rw [if_neg (by simp [n1, n2]), Tof_none hG]
    exact ex1 q u hq
  have down : ∀ q, (if q = ad ∨ q = dx then none else Tof G1 (upd (upd H1 dx (.own ad)) ad (.ins C dx [])) q) = none → Tof G1 H1 q = none := fun q z => by
    cases et : Tof G1 H1 q with
    | none => rfl
    | some w => rw [sub q w et] at z; cases z
  exact ⟨B.ff, fun q u hq => (B.ft q u hq).imp id (down q), B.fh, B.gh, B.fg, fun q u hq => down q (B.gt q u hq), fun q u hq => B.tk q u (sub q u hq)⟩
theorem we_make {x : Str} {C : Addr} {k j : Nat} {ps : List Str} {f : FSpI} {Q : Res → Env2 → GD → Prop} (tk : X.Tk) (M : MakeD X.prog X.w X.K X.mg X.base x C k ps f) (hr : Room j X.A) (hg : Gl X x) (h : WA X (e :: es) r G fun ds r1 G1 => f ds G1 (fun ys G2 => Q (.sh (.ins C ys)) r1 G2) (fun xn G2 => X.QX xn r1 G2)) (hj : k + 1 ≤ j := by omega)
    (hdb : (x == ("__debug__" : Str)) = false := by decide) (he : starEach (e :: es) X.env = (false, eval e X.env) :: starEach es X.env := by rfl) (hpl : (backTo pos (starEach es X.env)).any (·.1) = false := by rfl) : WE X (.Call (.Name x p0) (e :: es) [] pos) r G Q := fun F0 T F H σ lk S => by
  obtain ⟨g, fd, h1, h2, h3, h4⟩ := M.ex
  refine Run.of (pe_makeS h1 h3 (hr.mono hj) hg h2 h4 (fun σ => passAt tk σ) paR hdb he hpl) ((h F0 T F H σ lk S).mono fun vs H1 ⟨ds, r1, G1, F1, e1, S1, k1, q1⟩ => ?_)
  intro ad dx ha hd hne
  obtain ⟨f1, f2, f3⟩ := S1.bas.freshF ha
  obtain ⟨g1, g2, g3⟩ := S1.bas.freshF hd
  have ex1 : Ex H1 (upd (upd H1 dx (.own ad)) ad (.ins C dx [])) := fun q u hq => by
    rw [upd_ne (ne_of_none hq ha), upd_ne (ne_of_none hq hd)]; exact hq
  refine ⟨ad, dx, vs, F1, G1, ds, _, _, rfl, upd_same, by rw [upd_ne hne, upd_same], hne, f1, g1, f2, g2, S1.bas.fh.trans ex1, S1.bas.gmono (Ex.refl _) fun a o _ h => ex1 a o h, S1.bas.fg, k1, q1, fun ys G' H' F' hp B rp => ⟨rfl, ?_⟩, fun xn cls d G' H' F' hp B ex => ?_⟩
  · have B' := make_base ha hd ex1 B
    exact ⟨.sh (.ins C ys), r1, G', F', e1.trans B'.ff, S1.after B', rp, hp⟩
  · have B' := make_base ha hd ex1 B
    exact ⟨r1, G', F', xn, lk.sta (S1.after B'), ex, hp⟩
/-- a block, then statements by hand -/
theorem execs_app (env : Env) (post : List Stmt) : ∀ pre : List Stmt, execs (pre ++ post) env = execs pre env >>= fun f => match f with
    | .next => execs post env
    | f => pure f
  | [] => by
    rw [List.nil_append, execs, pure_bind]
  | st :: pre => by
    rw [List.cons_append, execs, execs, bind_assoc]
    congr 1
    funext f
    cases f with
    | next => exact execs_app env post pre
    | brk => rw [pure_bind]
    | cont => rw [pure_bind]
    | ret v => rw [pure_bind]
theorem runB_then {pre post : List Stmt} {E : Ends} {σ : L2.St} {H : Hp} (h : RunB X pre { E with nx := fun σ' H' => RunB X post E σ' H' } σ H) : RunB X (pre ++ post) E σ H := fun pins s I => by
  rw [execs_app]
  refine wpAny_bind (wpAny_mono (h pins s I) (fun f s' q => ?_) fun _ _ x => x)
  cases f with
  | next => obtain ⟨σ', H', I', q⟩ := q; exact q pins s' I'
  | brk => exact wpAny_pure q
  | cont => exact wpAny_pure q
  | ret v => exact wpAny_pure q
end
theorem bt_len : bootBuiltins "len" = some (.builtin "len") := by decide +kernel
theorem bt_int : bootBuiltins "int" = some (.type "int") := by decide +kernel
theorem bt_list : bootBuiltins "list" = some (.type "list") := by decide +kernel
theorem bt_tuple : bootBuiltins "tuple" = some (.type "tuple") := by decide +kernel
theorem bt_dict : bootBuiltins "dict" = some (.type "dict") := by decide +kernel
theorem bt_bool : bootBuiltins "bool" = some (.type "bool") := by decide +kernel
theorem bt_str : bootBuiltins "str" = some (.type "str") := by decide +kernel
theorem bt_isinstance : bootBuiltins "isinstance" = some (.builtin "isinstance") := by decide +kernel
theorem bt_min : bootBuiltins "min" = some (.builtin "min") := by decide +kernel
theorem bt_max : bootBuiltins "max" = some (.builtin "max") := by decide +kernel
section
variable {prog : Program} {w : World} {A : Around} {E : Value → Shared → Prop} {s : Shared}
abbrev tIt (t : Addr) : Obj := { cls := .type "tuple_iterator", data := .fields #[.ref t, .int 0 0] }
abbrev enO (i : Addr) : Obj := { cls := .type "enumerate", data := .fields #[.none, .bool false, .ref i, rawInt 0, .none, .none] }
theorem meets_enumT (t : Addr) (its : Array Value) (o : Obj) (n : Nat) (ho : o.cls = .type "tuple" ∧ o.data = .seq its n) :
    Meets (Builtin.«enumerate.__new__» ⟨[.type "enumerate", .ref t], []⟩) (fun _ R s => s.heap.get? t = some o ∧
      R (.ok (.ret (.ref (s.heap.push (tIt t)).objs.size))) { s with heap := (s.heap.push (tIt t)).push (enO s.heap.objs.size) }) :=
  .of_wp fun prog w A R s h => by
    obtain ⟨c, dc, dt, sl⟩ := o
    obtain ⟨h1, h2⟩ := ho
    cases h1
    obtain ⟨hp, g, d, tk, os⟩ := s; obtain ⟨hl, h⟩ := h
    have sub := sub_enumerate
    have tup : Heap.IsTuple (Shared.heap ⟨hp, g, d, tk, os⟩) t its := ⟨_, hl, rfl, _, h2⟩
    wp_walk using AutoSeq1.wpAny_loadPart' hl
    refine wpAny_stack_any fun st => wpAny_pure ?_
    split
    · rename_i c _ _ _ _ _
      cases (c == Value.type "enumerate")
      all_goals
        wp_walk using AutoSeq1.wpAny_loadPart' hl, wpAny_pyIter_tuple tup
        exact ⟨_, rfl, h⟩
    · wp_walk using AutoSeq1.wpAny_loadPart' hl, wpAny_pyIter_tuple tup
      exact ⟨_, rfl, h⟩
theorem callEnumT {t : Addr} {its : Array Value} {Q : Value → Shared → Prop} (ht : s.heap.IsTuple t its)
    (h : ∀ h', IsEnum h' (s.heap.objs.size + 1) s.heap.objs.size 0 .none → h'.IsTupleIter s.heap.objs.size t 0 → (∀ b o, s.heap.get? b = some o → h'.get? b = some o) → Q (.ref (s.heap.objs.size + 1)) { s with heap := h' }) :
    wpAny (model prog w) A (call (.type "enumerate") [.ref t]) Q E s := by
  obtain ⟨o, ho, hc, n, hd⟩ := ht
  refine callType_new F.called_enumerate (by decide) (F.typeCall_enumerate_1 _) (F.newCall_enumerate_1 _) (fun obj => F.args_object_init_2 obj _) F.entry_enumerate_new (meets_enumT t its o n ⟨hc, hd⟩) ⟨ho, ?_⟩
  have z : (s.heap.push (tIt t)).objs.size = s.heap.objs.size + 1 := Heap.size_push ..
  show _ ∧ _
  rw [z]
  have he : IsEnum ((s.heap.push (tIt t)).push (enO s.heap.objs.size)) (s.heap.objs.size + 1) s.heap.objs.size 0 .none := by
    have q := Heap.get?_push_size (s.heap.push (tIt t)) (o := enO s.heap.objs.size) rfl
    rw [z] at q
    exact q
  exact ⟨⟨_, he, rfl⟩, h _ he ⟨_, Heap.get?_push_of_some _ (Heap.get?_push_size _ rfl), rfl, rfl⟩ fun b o x => Heap.get?_push_of_some _ (Heap.get?_push_of_some _ x)⟩
end
/-- the tuple at a, each item in a new pair -/
def ItU (K : PySem.W.Frag) (a : Addr) : It :=
  ⟨fun i H => ∃ (xs : List V) (x : V), SqT K H a xs ∧ xs[i]? = some x, fun i H v H' => ∃ T x, v = .ref T ∧ H T = none ∧ H' = upd H T (.tup [.int (i : Nat), x]) ∧ ∀ xs, SqT K H a xs → xs[i]? = some x, fun i H => ∃ xs : List V, SqT K H a xs ∧ xs.length = i⟩
theorem turn_enumT {P : Program} {w : World} {K : PySem.W.Frag} {elts : List Expr} {kk : Nat} {tpos : Pos} (a e it : Addr) (hae : a ≠ e) (hai : a ≠ it) :
    Turn P w K (.Tuple elts kk tpos) (ItU K a) [e, it] e (fun i h => (∃ old, IsEnum h e it ((i : Nat) : Int) old) ∧ h.IsTupleIter it a i ∧ e ≠ it) where
  mem := by simp
  obj := fun i h st b hb => by
    obtain ⟨⟨old, he⟩, ⟨o, ho, hc, hd⟩, _⟩ := st
    rcases (by simpa using hb : b = e ∨ b = it) with z | z
    · rw [z]; exact ⟨_, he, fun v q => nomatch q⟩
    · rw [z]; exact ⟨o, ho, fun v q => by rw [hd] at q; cases q⟩
  keep := fun i h h' ⟨⟨old, he⟩, hi, hne⟩ k => ⟨⟨old, k e (by simp) _ he⟩, hi.at fun o q => k it (by simp) o q, hne⟩
  item := by
    intro X hP hw hK hc i pins s σ H E I hf st hg
    subst hP hw hK
    obtain ⟨⟨old, he⟩, hit, hne⟩ := st
    obtain ⟨xs, x, hq, hx⟩ := hg
    obtain ⟨its, rv, p, hz⟩ := I.tuple hq
    obtain ⟨u, hu, ru⟩ := rv.get hx
    have hel : e < s.heap.objs.size := Heap.lt_size he
    have hil : it < s.heap.objs.size := by obtain ⟨_, q, _⟩ := hit; exact Heap.lt_size q
    have dr := Draws.tuple (prog := X.prog) (w := X.w) (A := X.A.in1) (I.ok.hd hc) it a hai its.toArray
    have lt : i < its.toArray.size := by
      have := (List.getElem?_eq_some_iff.mp hu).1
      simpa using this
    refine wpAny_pyNext_enum_itemD dr he ⟨hit, p⟩ lt hne (by simp [hne, hae.symm]) fun x' h' tk hv ho hit' hT hsz hk => ?_
    have ex : x' = u := by
      have : its[i]? = some x' := by simpa using hv
      rw [hu] at this; cases this; rfl
    subst ex
    refine ⟨_, rfl, wpAny_letOwnedTupleGo_enum (s := { s with heap := h', toks := tk + 1 }) ho fun h'' he' sb => ?_⟩
    have hT2 : h''.get? s.heap.objs.size = some { cls := .type "tuple", data := .seq #[.int i tk, x'] } := (sb.2 _ (Nat.ne_of_gt hel)).trans hT
    have new : ObjOk X.prog X.w (upd H s.heap.objs.size (.tup [.int (i : Nat), x])) h'' s.heap.objs.size (.tup [.int (i : Nat), x]) :=
      ⟨by show 2 ≤ sizeLine; decide, [.int i tk, x'], .cons ⟨_, rfl⟩ (.cons ru .nil), ⟨_, hT2, rfl, _, rfl⟩⟩
    have I1 : Inv X pins σ (upd H s.heap.objs.size (.tup [.int (i : Nat), x])) { s with heap := h'', toks := tk + 1 } :=
      I.turnedNew (ch := [e, it]) (fun b ob hb q => (sb.2 b (fun z => hb (by simp [z]))).trans (hk b ob (fun z => hb (by simp [z])) (fun z => hb (by simp [z])) q)) hf (Nat.le_refl _) new
    refine ⟨.ref s.heap.objs.size, _, I1, rfl, ⟨_, x, rfl, I.hok.fresh (Nat.le_refl _), rfl, fun ys hy => by rw [I.tuple_inj hy hq]; exact hx⟩, ⟨⟨x', he'⟩, hit'.1.at fun o q => (sb.2 it (Ne.symm hne)).trans q, hne⟩, fun b hb => ?_⟩
    have hb' : b < s.heap.objs.size := by
      rcases (by simpa using hb : b = e ∨ b = it) with z | z
      · rw [z]; exact hel
      · rw [z]; exact hil
    rw [upd_ne (Nat.ne_of_lt hb')]
    exact (hf b hb).1
  done := by
    intro X hP hw hK hc i pins s σ H E I hf st hg
    subst hP hw hK
    obtain ⟨⟨old, he⟩, hit, hne⟩ := st
    obtain ⟨xs, hq, hx⟩ := hg
    obtain ⟨its, rv, p, hz⟩ := I.tuple hq
    obtain ⟨f0, f1, f2, f3, f4, f5⟩ := hf it (by simp)
    have hl : its.toArray.size = i := by
      have := rv.length
      simp
      omega
    subst hl
    exact wpAny_pyNext_enum_endD (Draws.tuple (prog := X.prog) (w := X.w) (A := X.A.in1) (I.ok.hd hc) it a hai its.toArray) he ⟨hit, p⟩ fun h' eb => ⟨rfl, I.turned (t' := s.toks) (fun b o hb q => eb b o hb q) f0 f1 f3 f4 f5⟩
  self := fun A i s Q E ⟨⟨_, he⟩, _⟩ h => wpAny_pyIter_enum he h
def iEnumT (K : PySem.W.Frag) (ta : TA) : TI := fun σ H R => ta σ H fun vs H1 => ∃ a xs, vs = [.ref a] ∧ SqT K H1 a xs ∧ R (ItU K a) H1
theorem pi_enumT {X : Cx} {e : Expr} {ta : TA} {p pos tpos : Pos} {elts : List Expr} {kk : Nat} (hg : Gl X "enumerate") (hm : X.mg "enumerate" = none) (ha : PA X [e] ta) (hs : starEach [e] X.env = [(false, eval e X.env)] := by rfl) :
    PI X (.Tuple elts kk tpos) (.Call (.Name "enumerate" p) [e] [] pos) (iEnumT X.K ta) := by
  refine ⟨fun pins s σ H R I h => ?_⟩
  refine Call_ (ld_blt I hg hm boot_enumerate (PyProof.Rows.callWith_type1 (thn (ha.run pos pins s σ H _ I h) fun us s1 ⟨vs, H1, I1, r1, q1⟩ => ?_) hs rfl))
  obtain ⟨a, xs, ex, hq, q⟩ := q1
  subst ex
  cases r1 with
  | cons rl rr =>
    cases rr
    cases rl
    obtain ⟨its, rv, p', hz⟩ := I1.tuple hq
    have ha : a < s1.heap.objs.size := by obtain ⟨_, z, _⟩ := p'; exact Heap.lt_size z
    refine callEnumT (show s1.heap.IsTuple a its.toArray from p') fun h' he hit hk => wpAny_pyIter_enum he ?_
    refine ⟨s1.heap.objs.size + 1, [s1.heap.objs.size + 1, s1.heap.objs.size], _, _, H1, rfl, I1.kept (t' := s1.toks) hk, turn_enumT a (s1.heap.objs.size + 1) s1.heap.objs.size (Nat.ne_of_lt (Nat.lt_succ_of_lt ha)) (Nat.ne_of_lt ha), ⟨⟨.none, he⟩, hit, Nat.succ_ne_self _⟩, fun b hb => ?_, q⟩
    have hle : s1.heap.objs.size ≤ b := by
      rcases (by simpa using hb : b = s1.heap.objs.size + 1 ∨ b = s1.heap.objs.size) with z | z
      · rw [z]; exact Nat.le_succ _
      · rw [z]; exact Nat.le_refl _
    exact I1.fpOk hle (I1.hok.fresh hle)
def enumD (k : Nat) : List D → List D
  | [] => []
  | d :: ds => .tup [.int (k : Nat), d] :: enumD (k + 1) ds
theorem enumD_len : ∀ (ds : List D) (k : Nat), (enumD k ds).length = ds.length
  | [], _ => rfl
  | d :: ds, k => by unfold enumD; rw [List.length_cons, List.length_cons, enumD_len ds]
theorem enumD_get : ∀ {ds : List D} {k i : Nat} {x : D}, (enumD k ds)[i]? = some x → ∃ d, ds[i]? = some d ∧ x = .tup [.int ((k + i : Nat) : Int), d]
  | [], k, i, x, h => by simp [enumD] at h
  | d :: ds, k, 0, x, h => by
    unfold enumD at h
    simp at h
    exact ⟨d, rfl, h.symm⟩
  | d :: ds, k, i + 1, x, h => by
    unfold enumD at h
    rw [List.getElem?_cons_succ] at h
    obtain ⟨d', h1, h2⟩ := enumD_get h
    exact ⟨d', by rw [List.getElem?_cons_succ]; exact h1, by rw [h2, show k + 1 + i = k + (i + 1) by omega]⟩
theorem rep_pair {K : PySem.W.Frag} {F : Hp} {p : Addr} {d1 d2 : D} {v1 v2 : V} (hp : F p = none) (h1 : Rep K F d1 v1) (h2 : Rep K F d2 v2) : Rep K (upd F p (.tup [v1, v2])) (.tup [d1, d2]) (.ref p) :=
  ⟨p, [v1, v2], rfl, .inl (.inl upd_same), v1, [v2], rfl, Rep.mono (Ex.new hp) _ _ h1, .one (Rep.mono (Ex.new hp) _ _ h2)⟩
theorem none_F {F H : Hp} (e : Ex F H) {p : Addr} (h : H p = none) : F p = none := none_of e h
section
variable {X : Cy} {e e2 a b c o tg : Expr} {es elts : List Expr} {kk : Nat} {st : Stmt} {sts rest body orelse : List Stmt} {r : Env2} {G : GD} {pos tpos apos cpos p0 : Pos} {D0 : EndsD}
theorem wi_enumT {Q : List D → Env2 → GD → Prop} (hg : Gl X "enumerate") (hm : X.mg "enumerate" = none) (h : WE X a r G fun x r1 G1 => ∃ ds r2, fz r1 x = some (.tup ds, r2) ∧ (ds.length ≤ LIM → Q (enumD 0 ds) r2 G1)) (hst : starEach [a] X.env = [(false, eval a X.env)] := by rfl) :
    WI X (.Tuple elts kk tpos) (.Call (.Name "enumerate" p0) [a] [] pos) r G Q := fun F0 T F H σ lk S =>
  RunI.of (pi_enumT hg hm (pa_cons peR pa_nil hst) hst) ((h F0 T F H σ lk S).bl.mono fun v H1 ⟨bl, x, r1, G1, F1, e1, S1, k1, ds, r2, q1, q2⟩ => by
    obtain ⟨Fa, e2, Sa, rp⟩ := S1.fz k1 q1
    obtain ⟨ad, vs, rfl, z1, z2⟩ := rp
    have hlim : ds.length ≤ LIM := by rw [← z2.length]; exact bl.2.1 ad vs (Sa.bas.fh.sqT z1)
    refine ⟨ad, vs, rfl, Sa.bas.fh.sqT z1, enumD 0 ds, r2, G1, Fa, e1.trans e2, Sa, fun F H ea eh => ⟨⟨vs, eh.sqT (ea.sqT z1), by rw [enumD_len, z2.length]⟩, fun i d hi => ?_⟩, q2 hlim⟩
    obtain ⟨d', hd, rfl⟩ := enumD_get hi
    obtain ⟨v, h1, h2⟩ := z2.get hd
    refine ⟨⟨vs, v, eh.sqT (ea.sqT z1), h1⟩, fun x H' ⟨p, y, hx, hp, hH, hy⟩ => .inr ⟨p, _, hp, hH, hx, ?_⟩⟩
    have := hy vs (eh.sqT (ea.sqT z1))
    rw [h1] at this; cases this
    rw [Nat.zero_add]
    exact rep_pair (none_F eh hp) rfl (Rep.mono ea _ _ h2))
theorem rev_get {α : Type} {xs : List α} {i : Nat} {x : α} (h : xs.reverse[i]? = some x) : i < xs.length ∧ xs[xs.length - 1 - i]? = some x := by
  have hi : i < xs.length := by
    have := (List.getElem?_eq_some_iff.mp h).1
    rw [List.length_reverse] at this; exact this
  rw [List.getElem?_reverse hi] at h
  exact ⟨hi, h⟩
theorem wi_revL {Q : List D → Env2 → GD → Prop} (hg : Gl X "reversed") (hm : X.mg "reversed" = none) (h : WE X a r G fun x r1 G1 => ∃ ds r2, fz r1 x = some (.lst ds, r2) ∧ (ds.length ≤ LIM → Q ds.reverse r2 G1)) (hst : starEach [a] X.env = (false, eval a X.env) :: starEach [] X.env := by rfl) :
    WI X tg (.Call (.Name "reversed" p0) [a] [] pos) r G Q := fun F0 T F H σ lk S =>
  RunI.of (RT.pi_revA hg hm peR hst) ((h F0 T F H σ lk S).bl.mono fun v H1 ⟨bl, x, r1, G1, F1, e1, S1, k1, ds, r2, q1, q2⟩ => by
    obtain ⟨Fa, e2, Sa, rp⟩ := S1.fz k1 q1
    obtain ⟨ad, vs, rfl, z1, z2⟩ := rp
    have hlim : ds.length ≤ LIM := by rw [← z2.length]; exact bl.1 ad vs (.inl (Sa.bas.fh.rd z1))
    refine ⟨ad, vs, rfl, .inl ⟨.inl (Sa.bas.fh.rd z1), ds.reverse, r2, G1, Fa, e1.trans e2, Sa, fun F H ea eh => ⟨by rw [List.length_reverse, z2.length]; exact Nat.le_refl _, fun i d hi => ?_⟩, q2 hlim⟩⟩
    obtain ⟨hlt, hd⟩ := rev_get hi
    rw [← z2.length] at hlt hd
    obtain ⟨v, h1, h2⟩ := z2.get hd
    refine ⟨⟨hlt, vs, v, .inl (eh.rd (ea.rd z1)), h1⟩, fun x H' ⟨hH, hy⟩ => .inl ⟨hH, ?_⟩⟩
    have := hy vs (.inl (eh.rd (ea.rd z1)))
    rw [h1] at this; cases this
    exact Rep.mono ea _ _ h2)
theorem Vw.loc {K : PySem.W.Frag} {F0 T F : Hp} {G : GD} {H : Hp} {r r2 : Env2} {σ : L2.St} {x : Res} {v : V} {ks : List Key} {ds : List D} (S : Sta K F0 T F G H r σ) (h : ResOk K T F G H r σ x v) (e : fz r x = some (.dic ks ds, r2)) : r2 = r ∧ Rep K F (.dic ks ds) v := by
  cases x with
  | sh d => cases e; exact ⟨rfl, h⟩
  | fr d =>
    have e' : (if isDic d then none else some (d, r)) = some (.dic ks ds, r2) := e
    split at e'
    · cases e'
    · rename_i hd
      cases e'
      exact absurd rfl hd
  | pk i =>
    obtain ⟨h1, d', h2⟩ := h
    have e' : (match r[i]? with | some (.own d) => if isDic d then none else some (d, r.set i (.sh d)) | _ => none) = some (.dic ks ds, r2) := e
    rw [h2] at e'
    dsimp only at e'
    split at e'
    · cases e'
    · rename_i hd
      cases e'
      exact absurd rfl hd
end
def putD (acc : List (Key × D)) (k : Key) (d : D) : List (Key × D) :=
  if (acc.any fun kv => decide (kv.1 = k)) = true then acc.map (fun kv => if kv.1 = k then (kv.1, d) else kv) else acc ++ [(k, d)]
def DRep (K : PySem.W.Frag) (F : Hp) : List (Key × D) → List (Key × V) → Prop
  | [], us => us = []
  | p :: acc, us => ∃ u us', us = u :: us' ∧ u.1 = p.1 ∧ Rep K F p.2 u.2 ∧ DRep K F acc us'
theorem DRep.mono {K : PySem.W.Frag} {F F' : Hp} (e : Ex F F') : ∀ {acc : List (Key × D)} {us : List (Key × V)}, DRep K F acc us → DRep K F' acc us
  | [], _, h => h
  | p :: acc, _, ⟨u, us', h1, h2, h3, h4⟩ => ⟨u, us', h1, h2, Rep.mono e _ _ h3, h4.mono e⟩
theorem DRep.length {K : PySem.W.Frag} {F : Hp} : ∀ {acc : List (Key × D)} {us : List (Key × V)}, DRep K F acc us → us.length = acc.length
  | [], _, h => by rw [show _ = [] from h]; rfl
  | p :: acc, _, ⟨u, us', h1, h2, h3, h4⟩ => by rw [h1, List.length_cons, List.length_cons, h4.length]
theorem DRep.append {K : PySem.W.Frag} {F : Hp} : ∀ {acc bcc : List (Key × D)} {us ws : List (Key × V)}, DRep K F acc us → DRep K F bcc ws → DRep K F (acc ++ bcc) (us ++ ws)
  | [], _, _, _, h, h' => by rw [show _ = [] from h]; exact h'
  | p :: acc, _, _, _, ⟨u, us', h1, h2, h3, h4⟩, h' => by subst h1; exact ⟨u, us' ++ _, rfl, h2, h3, h4.append h'⟩
theorem DRep.any {K : PySem.W.Frag} {F : Hp} (k : Key) : ∀ {acc : List (Key × D)} {us : List (Key × V)}, DRep K F acc us → (us.any fun kv => decide (kv.1 = k)) = acc.any fun kv => decide (kv.1 = k)
  | [], _, h => by rw [show _ = [] from h]; rfl
  | p :: acc, _, ⟨u, us', h1, h2, h3, h4⟩ => by subst h1; rw [List.any_cons, List.any_cons, h4.any k, h2]
theorem DRep.over {K : PySem.W.Frag} {F : Hp} {k : Key} {d : D} {v : V} (hv : Rep K F d v) : ∀ {acc : List (Key × D)} {us : List (Key × V)}, DRep K F acc us → DRep K F (acc.map fun kv => if kv.1 = k then (kv.1, d) else kv) (us.map fun kv => if kv.1 = k then (kv.1, v) else kv)
  | [], _, h => by rw [show _ = [] from h]; rfl
  | p :: acc, _, ⟨u, us', h1, h2, h3, h4⟩ => by
    subst h1
    refine ⟨_, _, List.map_cons, ?_, ?_, h4.over hv⟩
    · dsimp only
      rw [h2]
      by_cases hk : p.1 = k
      · rw [if_pos hk, if_pos hk]
      · rw [if_neg hk, if_neg hk]; exact h2
    · dsimp only
      rw [h2]
      by_cases hk : p.1 = k
      · rw [if_pos hk, if_pos hk]; exact hv
      · rw [if_neg hk, if_neg hk]; exact h3
theorem DRep.put {K : PySem.W.Frag} {F : Hp} {k : Key} {d : D} {v : V} {acc : List (Key × D)} {us : List (Key × V)} (h : DRep K F acc us) (hv : Rep K F d v) : DRep K F (putD acc k d) (putK us k v) := by
  unfold putD putK
  rw [h.any k]
  by_cases hk : (acc.any fun kv => decide (kv.1 = k)) = true
  · rw [if_pos hk, if_pos hk]; exact h.over hv
  · rw [if_neg hk, if_neg hk]; exact h.append ⟨(k, v), [], rfl, rfl, hv, rfl⟩
/-- a special method of a class with slots: a plain def -/
structure SpecD (P : Program) (w : World) (K : PySem.W.Frag) (mg : Str → Option Value) (base : Heap) (C : Addr) (m : Str) (k : Nat) (ps : List Str) (sp : FSp) : Prop where
  ex : ∃ (g : Addr) (fd : FuncData), PySem.W.findIn K (.ref C) m = some (some (.ref g)) ∧ PySem.W.isFn K (.ref g) = true ∧ FnOk P w K mg base (CX P w) k g fd ps (spD K sp) ∧ Binds K fd ps []
section
variable {X : Cy} {e a b c o tg kx vx : Expr} {es : List Expr} {st : Stmt} {sts rest body orelse : List Stmt} {r : Env2} {G : GD} {pos tpos apos p0 p1 p2 : Pos} {D0 : EndsD}
/-- len(x), x an instance -/
def rLenOwn (C : Addr) (sp : Sp) (E : XK) : List V → Hp → VK → Prop := fun xs H Q => ∃ a dx vs, xs = [V.ref a] ∧ SlX.Slt H a C dx vs ∧ sp [.ref a] H (fun z H' => ∃ i, z = .int i ∧ (0 ≤ i ∧ i < 2 ^ 63) ∧ Q z H') E
theorem call_lenOwn {C g : Addr} {CX : CXT} {n : Nat} {sp : Sp} {E : XK} (hs : PySem.W.findIn X.K (.ref C) "__len__" = some (some (.ref g))) (hf : PySem.W.isFn X.K (.ref g) = true) (F : FnR X.prog X.w X.K X.mg X.base CX n g sp) (hr : Room (n + 1) X.A) (hx : Passes CX X E) : CallR X (.builtin "len") (rLenOwn C sp E) := by
  intro pins s σ H xs us Q I r h
  obtain ⟨a, dx, vs, rfl, hsl, q⟩ := h
  obtain ⟨u, rfl, ru⟩ := r.one
  cases (show u = Value.ref a from ru)
  obtain ⟨sl, od, _, J, _⟩ := SlX.slt_inst I hsl
  obtain ⟨m, hF⟩ := I.fr
  refine PySem.W.len_K hF I.ok.mod.kin J hs hf (wpAny_mono (wpAny_call (SlX.run_at (us := [.ref a]) (ws := [.ref a]) F hr.in1 I.env0.in1 hx I (.cons rfl .nil) q)) (fun w s' z => ?_) fun _ _ x => x)
  obtain ⟨z', H', I', rz, i, ei, hi, qz⟩ := z
  subst ei
  obtain ⟨t, e⟩ := (show ∃ t, w = Value.int i t from rz)
  cases e
  exact ⟨hi, .int i, H', I'.tok _, ⟨_, rfl⟩, qz⟩
theorem passF {X : Cx} : Passes (L2.CX X.prog X.w) X (fun _ _ _ => False) := fun _ _ _ _ _ _ _ h => by
  obtain ⟨_, _, _, _, _, _, _, _, _, _, _, _, z⟩ := h
  exact z.elim
theorem Vw.rep_ins {K : PySem.W.Frag} {F H : Hp} {C : Addr} {ds : List D} {v : V} (h : Vw K F H (.ins C ds) v) : Rep K F (.ins C ds) v := by
  rcases h with z | ⟨_, _, z⟩
  · exact z
  · exact z.elim
/-- a promise met, the open region as it was -/
theorem spD_same {K : PySem.W.Frag} {F0 T F H : Hp} {σ : L2.St} {sp : FSp} {ds : List D} {vs : List V} {Q : Res → Prop} {E : XK} (S : Sta K F0 T F G H r σ) (ha : RepL K F ds vs) (h : sp ds G (fun z G2 => G2 = G ∧ Q z) (fun _ _ => False)) :
    spD K sp vs H (fun v H' => ∃ x F', Ex F F' ∧ Sta K F0 T F' G H' r σ ∧ ResOk K T F' G H' r σ x v ∧ Q x) E :=
  ⟨F, G, ds, _, _, S.bas.fh, S.bas.gh, S.bas.fg, ha, h, fun x G' v H' F' ⟨e1, hp⟩ B rt => by
    subst e1
    exact ⟨x, F', B.ff, S.after B, ResOk.after S B rt, hp⟩, fun _ _ _ _ _ _ z => z.elim⟩
theorem c_lenI {C : Addr} {k j : Nat} {ps : List Str} {sp : FSp} {ds : List D} {Q : Res → Prop} (M : SpecD X.prog X.w X.K X.mg X.base C "__len__" k ps sp) (hr : Room j X.A) (h : ∀ G, sp [.ins C ds] G (fun z G2 => G2 = G ∧ ∃ i, z = .sh (.int i) ∧ (0 ≤ i ∧ i < 2 ^ 63) ∧ Q z) (fun _ _ => False)) (hj : k + 1 ≤ j := by omega) : CallW1 X (.builtin "len") (.ins C ds) Q := fun F0 T F G H r σ v S hv => by
  obtain ⟨g, fd, h1, h2, h3, h4⟩ := M.ex
  have rp := hv.rep_ins
  obtain ⟨ad, dx, vs, rfl, z1, z2⟩ := hv.ins S.bas.fh
  refine ⟨_, call_lenOwn (E := fun _ _ _ => False) h1 h2 (fnr h3 h4) (hr.mono hj) passF, ad, dx, vs.map some, rfl, z1, ?_⟩
  obtain ⟨F1, G1, ds1, post, px, k1, k2, k3, k4, k5, k6, k7⟩ := spD_same (E := fun _ _ _ => False) S (.one rp) (h G)
  refine ⟨F1, G1, ds1, post, px, k1, k2, k3, k4, k5, fun x G' v' H' F' hp B rt => ?_, k7⟩
  obtain ⟨x', F'', q1, q2, q3, q4⟩ := k6 x G' v' H' F' hp B rt
  obtain ⟨i, rfl, hi, hq⟩ := q4
  exact ⟨i, q3, hi, .sh (.int i), F'', q1, q2, q3, hq⟩
end
theorem lt_ {i n : Nat} (h : Nat.ble (i + 1) n = true) : i < n := Nat.le_of_ble_eq_true h
/-- what builtin names stand free -/
structure Bn (mg : Str → Option Value) : Prop where
  int : mg "int" = none
  len : mg "len" = none
  list : mg "list" = none
  range : mg "range" = none
  sorted : mg "sorted" = none
  tuple : mg "tuple" = none
  dict : mg "dict" = none
  isinstance : mg "isinstance" = none
  bool : mg "bool" = none
  str : mg "str" = none
  enumerate : mg "enumerate" = none
  reversed : mg "reversed" = none
  abs : mg "abs" = none
  min : mg "min" = none
  max : mg "max" = none
  sum : mg "sum" = none
  zip : mg "zip" = none
  set : mg "set" = none
  all : mg "all" = none
  divmod : mg "divmod" = none
section
variable {X : Cy} {r : Env2} {G : GD} {pos px py pz : Pos}
theorem wg_pair (i j : Nat) {x y : Str} {kt : Nat} {d1 d2 : D} {is : List Nat} {Q : Env2 → GD → Prop} (hc : X.calm = true) (nd : X.N.Nodup) (hi : X.N[i]? = some x) (hj : X.N[j]? = some y) (hx : L2.Loc X.env.scope x) (hy : L2.Loc X.env.scope y) (mi : i ∈ is) (mj : j ∈ is) (li : i < r.length) (lj : j < r.length)
    (q : Q ((r.set i (.sh d1)).set j (.sh d2)) G) (hfx : X.fn x = true ∨ X.env.scope.names.lookup x = some .local := by first | exact .inl rfl | exact .inr rfl | assumption) (hfy : X.fn y = true ∨ X.env.scope.names.lookup y = some .local := by first | exact .inl rfl | exact .inr rfl | assumption)
    (hn : (assignEach [.Name x px, .Name y py] X.env).length = 2 := by rfl) (hf : (assignEach [.Name x px, .Name y py] X.env).findIdx? (·.1) = none := by rfl) : WG X (.Tuple [.Name x px, .Name y py] kt pos) (.tup [d1, d2]) r G is Q :=
  wg_tup [i, j] hc (.cons (pg_name nd hi hx hfx) (.cons (pg_name nd hj hy hfy) .nil)) (fun t ht us => by
    rcases List.mem_cons.mp ht with rfl | ht
    · rfl
    · cases List.mem_singleton.mp ht; rfl) (fun k hk => by
    rcases List.mem_cons.mp hk with rfl | hk
    · exact mi
    · cases List.mem_singleton.mp hk; exact mj) rfl (fun k hk => by
    rcases List.mem_cons.mp hk with rfl | hk
    · exact li
    · cases List.mem_singleton.mp hk; exact lj) q hn hf
theorem wg_trip (i j l : Nat) {x y z : Str} {kt : Nat} {d1 d2 d3 : D} {is : List Nat} {Q : Env2 → GD → Prop} (hc : X.calm = true) (nd : X.N.Nodup) (hi : X.N[i]? = some x) (hj : X.N[j]? = some y) (hk : X.N[l]? = some z) (hx : L2.Loc X.env.scope x) (hy : L2.Loc X.env.scope y) (hz : L2.Loc X.env.scope z) (mi : i ∈ is) (mj : j ∈ is) (ml : l ∈ is) (li : i < r.length) (lj : j < r.length) (ll : l < r.length)
    (q : Q (((r.set i (.sh d1)).set j (.sh d2)).set l (.sh d3)) G) (hfx : X.fn x = true ∨ X.env.scope.names.lookup x = some .local := by first | exact .inl rfl | exact .inr rfl | assumption) (hfy : X.fn y = true ∨ X.env.scope.names.lookup y = some .local := by first | exact .inl rfl | exact .inr rfl | assumption) (hfz : X.fn z = true ∨ X.env.scope.names.lookup z = some .local := by first | exact .inl rfl | exact .inr rfl | assumption)
    (hn : (assignEach [.Name x px, .Name y py, .Name z pz] X.env).length = 3 := by rfl) (hf : (assignEach [.Name x px, .Name y py, .Name z pz] X.env).findIdx? (·.1) = none := by rfl) : WG X (.Tuple [.Name x px, .Name y py, .Name z pz] kt pos) (.tup [d1, d2, d3]) r G is Q :=
  wg_tup [i, j, l] hc (.cons (pg_name nd hi hx hfx) (.cons (pg_name nd hj hy hfy) (.cons (pg_name nd hk hz hfz) .nil))) (fun t ht us => by
    rcases List.mem_cons.mp ht with rfl | ht
    · rfl
    · rcases List.mem_cons.mp ht with rfl | ht
      · rfl
      · cases List.mem_singleton.mp ht; rfl) (fun k hk => by
    rcases List.mem_cons.mp hk with rfl | hk
    · exact mi
    · rcases List.mem_cons.mp hk with rfl | hk
      · exact mj
      · cases List.mem_singleton.mp hk; exact ml) rfl (fun k hk => by
    rcases List.mem_cons.mp hk with rfl | hk
    · exact li
    · rcases List.mem_cons.mp hk with rfl | hk
      · exact lj
      · cases List.mem_singleton.mp hk; exact ll) q hn hf
end
section
variable {X : Cy} {e a b c o tg kx vx : Expr} {es : List Expr} {st : Stmt} {sts rest body orelse : List Stmt} {r : Env2} {G : GD} {pos tpos apos cpos p0 p1 p2 : Pos} {D0 : EndsD}
/-- max, min of a list of ints -/
theorem c_maxL {Q : Res → Prop} {ns : List Int} (hc : X.calm = true) (hn : ns ≠ []) (q : ∀ m, m ∈ ns → (∀ y ∈ ns, y ≤ m) → Q (.sh (.int m))) : CallW1 X (.builtin "max") (.lst (ns.map D.int)) Q := fun F0 T F G H r σ v S h => by
  obtain ⟨p, vs, rfl, k1, k2⟩ := h.lst S.bas.fh
  cases k2.ints
  exact ⟨_, cr_max hc, p, ns, rfl, .inl k1, List.length_pos_iff.mpr hn, fun m h1 h2 => ⟨.sh (.int m), F, Ex.refl _, S, rfl, q m h1 h2⟩⟩
theorem c_minL {Q : Res → Prop} {ns : List Int} (hc : X.calm = true) (hn : ns ≠ []) (q : ∀ m, m ∈ ns → (∀ y ∈ ns, m ≤ y) → Q (.sh (.int m))) : CallW1 X (.builtin "min") (.lst (ns.map D.int)) Q := fun F0 T F G H r σ v S h => by
  obtain ⟨p, vs, rfl, k1, k2⟩ := h.lst S.bas.fh
  cases k2.ints
  exact ⟨_, cr_min hc, p, ns, rfl, .inl k1, List.length_pos_iff.mpr hn, fun m h1 h2 => ⟨.sh (.int m), F, Ex.refl _, S, rfl, q m h1 h2⟩⟩
/-- xs.index(k), ints -/
theorem mw_index {Q : Res → Prop} {ns : List Int} {k : Int} {j : Nat} (hj : ns[j]? = some k) (hno : ∀ m, m < j → ns[m]? ≠ some k) (q : Q (.sh (.int (j : Nat)))) : MtW X "list.index" (.lst (ns.map D.int)) (.int k) Q := fun F0 T F G H r σ v w S h hw => by
  obtain ⟨p, vs, rfl, k1, k2⟩ := h.lst S.bas.fh
  cases k2.ints
  cases hw.int
  refine ⟨_, mt_index, p, ns.map V.int, .int k, j, .int k, rfl, rfl, .inl k1, rfl, ?_, ?_, beq_self_eq_true k, fun m z' hm hz => ?_, .sh (.int (j : Nat)), F, Ex.refl _, S, rfl, q⟩
  · rw [List.all_map]; exact List.all_eq_true.mpr fun _ _ => rfl
  · rw [List.getElem?_map, hj]; rfl
  · rw [List.getElem?_map] at hz
    cases e : ns[m]? with
    | none => rw [e] at hz; cases hz
    | some n =>
      rw [e] at hz
      cases hz
      exact beq_eq_false_iff_ne.mpr fun z => hno m hm (by rw [e, z])
theorem mw_count {Q : Res → Prop} {ns : List Int} {k : Int} (q : Q (.sh (.int (ns.count k : Nat)))) : MtW X "list.count" (.lst (ns.map D.int)) (.int k) Q := fun F0 T F G H r σ v w S h hw => by
  obtain ⟨p, vs, rfl, k1, k2⟩ := h.lst S.bas.fh
  cases k2.ints
  cases hw.int
  exact ⟨_, mt_lcount, p, ns, k, rfl, rfl, .inl k1, .sh (.int (ns.count k : Nat)), F, Ex.refl _, S, rfl, q⟩
theorem we_index {Q : Res → Env2 → GD → Prop}
    (h : WE X o r G fun x r1 G1 => ∃ ds0, VwR r1 G1 x (.lst ds0) ∧ WE X e r1 G1 fun y r2 G2 => ∃ dr da, VwR r2 G2 x dr ∧ VwR r2 G2 y da ∧ MtW X "list.index" dr da fun z => Q z r2 G2)
    (hbase : attributeBase o "index" X.env (eval o X.env) = eval o X.env := by rfl)
    (hfew : ((backTo cpos (starEach [e] X.env)).all (fun x => !x.1) && (backToKw cpos (keywordEach [] X.env)).all (fun x => x.1.isSome) && decide (([e] : List Expr).length + ([] : List Keyword).length + (if ([] : List Keyword).isEmpty then 0 else 1) < 30)) = true := by rfl)
    (hline : (apos.endLine == cpos.line) = true := by rfl) (hs : starEach [e] X.env = (false, eval e X.env) :: starEach [] X.env := by rfl) (hplain : (backTo cpos (starEach [] X.env)).any (·.1) = false := by rfl) :
    WE X (.Call (.Attribute o "index" apos) [e] [] cpos) r G Q := we_r1 PySem.F.plainAttrs_list PySem.F.slot_list_index PySem.F.type_list_index h hbase hfew hline hs hplain
theorem we_count {Q : Res → Env2 → GD → Prop}
    (h : WE X o r G fun x r1 G1 => ∃ ds0, VwR r1 G1 x (.lst ds0) ∧ WE X e r1 G1 fun y r2 G2 => ∃ dr da, VwR r2 G2 x dr ∧ VwR r2 G2 y da ∧ MtW X "list.count" dr da fun z => Q z r2 G2)
    (hbase : attributeBase o "count" X.env (eval o X.env) = eval o X.env := by rfl)
    (hfew : ((backTo cpos (starEach [e] X.env)).all (fun x => !x.1) && (backToKw cpos (keywordEach [] X.env)).all (fun x => x.1.isSome) && decide (([e] : List Expr).length + ([] : List Keyword).length + (if ([] : List Keyword).isEmpty then 0 else 1) < 30)) = true := by rfl)
    (hline : (apos.endLine == cpos.line) = true := by rfl) (hs : starEach [e] X.env = (false, eval e X.env) :: starEach [] X.env := by rfl) (hplain : (backTo cpos (starEach [] X.env)).any (·.1) = false := by rfl) :
    WE X (.Call (.Attribute o "count" apos) [e] [] cpos) r G Q := we_r1 PySem.F.plainAttrs_list PySem.F.slot_list_count PySem.F.type_list_count h hbase hfew hline hs hplain
end
/-- an exception: the number of its class, its values by name -/
structure Xm where
  n : Nat
  fs : List (Str × D)
inductive Out (α : Type) where
  | ok (a : α) | ex (x : Xm) | no
namespace Out
variable {α β σ ρ : Type}
def sat (m : Out α) (Q : α → Prop) (E : Xm → Prop) : Prop := match m with
  | .ok a => Q a
  | .ex x => E x
  | .no => False
def bind (m : Out α) (f : α → Out β) : Out β := match m with
  | .ok a => f a
  | .ex x => .ex x
  | .no => .no
/-- no exception is let out -/
def nox (m : Out α) : Out α := match m with
  | .ok a => .ok a
  | _ => .no
@[irreducible] def guard (p : Prop) [Decidable p] : Out Unit := if p then .ok () else .no
def get (o : Option α) : Out α := match o with
  | some a => .ok a
  | none => .no
theorem sat.imp {m : Out α} {Q Q' : α → Prop} {E E' : Xm → Prop} (h : m.sat Q E) (k : ∀ a, Q a → Q' a) (e : ∀ x, E x → E' x) : m.sat Q' E' := by
  cases m with
  | ok a => exact k a h
  | ex x => exact e x h
  | no => exact h
theorem sb {m : Out α} {f : α → Out β} {Q : β → Prop} {E : Xm → Prop} (h : (m.bind f).sat Q E) : m.sat (fun a => (f a).sat Q E) E := by
  cases m with
  | ok a => exact h
  | ex x => exact h
  | no => exact h
theorem nx {m : Out α} {Q : α → Prop} {E E' : Xm → Prop} (h : m.nox.sat Q E) : m.sat Q E' := by
  cases m with
  | ok a => exact h
  | ex x => exact h.elim
  | no => exact h
theorem gd {p : Prop} [Decidable p] {f : Unit → Out β} {Q : β → Prop} {E : Xm → Prop} (h : ((guard p).bind f).sat Q E) : p ∧ (f ()).sat Q E := by
  by_cases hp : p
  · unfold guard at h; rw [if_pos hp] at h; exact ⟨hp, h⟩
  · unfold guard at h; rw [if_neg hp] at h; exact h.elim
theorem gt {o : Option α} {f : α → Out β} {Q : β → Prop} {E : Xm → Prop} (h : ((get o).bind f).sat Q E) : ∃ a, o = some a ∧ (f a).sat Q E := by
  cases o with
  | none => exact h.elim
  | some a => exact ⟨a, rfl, h⟩
theorem iteb {c : Bool} {a b : Out α} {Q : α → Prop} {E : Xm → Prop} (h : (if c = true then a else b).sat Q E) : (c = true → a.sat Q E) ∧ (c = false → b.sat Q E) :=
  ⟨fun hc => by rw [if_pos hc] at h; exact h, fun hc => by rw [if_neg (by rw [hc]; exact Bool.false_ne_true)] at h; exact h⟩
@[simp] theorem bind_ok (a : α) (f : α → Out β) : (Out.ok a).bind f = f a := rfl
@[simp] theorem bind_ex (x : Xm) (f : α → Out β) : (Out.ex x : Out α).bind f = .ex x := rfl
@[simp] theorem bind_no (f : α → Out β) : (Out.no : Out α).bind f = .no := rfl
@[simp] theorem nox_ok (a : α) : (Out.ok a).nox = .ok a := rfl
@[simp] theorem get_some (a : α) : Out.get (some a) = .ok a := rfl
theorem guard_pos {p : Prop} [Decidable p] (h : p) : guard p = .ok () := by unfold guard; exact if_pos h
/-- a loop without a return -/
def fold (f : σ → α → Out σ) : List α → σ → Out σ
  | [], s => .ok s
  | x :: xs, s => (f s x).bind (fold f xs)
/-- how a block with a return ends -/
inductive Rt (σ ρ : Type) where
  | nx (s : σ) | rt (v : ρ)
/-- a loop with a return -/
def loop (f : σ → α → Out (Rt σ ρ)) : List α → σ → Out (Rt σ ρ)
  | [], s => .ok (.nx s)
  | x :: xs, s => (f s x).bind fun t => match t with
    | .nx s' => loop f xs s'
    | .rt v => .ok (.rt v)
/-- .. with a state -/
def compS (f : σ → α → Out (Option β × σ)) : List α → List β → σ → Out (List β × σ)
  | [], acc, s => .ok (acc, s)
  | x :: xs, acc, s => (f s x).bind fun p => compS f xs (match p.1 with
    | some y => acc ++ [y]
    | none => acc) p.2
end Out
open Out (Rt)
abbrev eI : Int → D := D.int
abbrev eB : Bool → D := D.bl
abbrev eU : Unit → D := fun _ => .non
abbrev eL {α : Type} (f : α → D) : List α → D := fun xs => .lst (xs.map f)
abbrev eT {α : Type} (f : α → D) : List α → D := fun xs => .tup (xs.map f)
abbrev eP {α β : Type} (f : α → D) (g : β → D) : α × β → D := fun p => .tup [f p.1, g p.2]
abbrev eP3 {α β γ : Type} (f : α → D) (g : β → D) (h : γ → D) : α × β × γ → D := fun p => .tup [f p.1, g p.2.1, h p.2.2]
abbrev eD {κ ν : Type} (k : κ → Key) (f : ν → D) : List (κ × ν) → D := fun kvs => .dic (kvs.map fun p => k p.1) (kvs.map fun p => f p.2)
/-- the class of an exception of the mirrors -/
def xnOf (cx : Nat → Addr) (m : Xm) : Exn := ⟨.ref (cx m.n), m.fs⟩
/-- a def without draws -/
def FM (cx : Nat → Addr) {A R : Type} (en : A → List D) (er : R → Res) (f : A → Out R) : FSp := fun ds G post px => ∃ a : A, ds = en a ∧ (f a).sat (fun v => post (er v) G) (fun m => px (xnOf cx m) G)
section
variable {X : Cy} {e a b c o tg kx vx elt : Expr} {es ifs : List Expr} {st : Stmt} {sts rest body orelse : List Stmt} {r : Env2} {G : GD} {pos tpos apos cpos p0 : Pos} {D0 : EndsD} {α β γ σT ρ : Type}
theorem wb_env (R : Env2) (hr : r = R) (k : WB X sts R G D0) : WB X sts r G D0 := by subst hr; exact k
theorem wb_let {e : α} {f : α → Out β} {Q : β → Prop} {E : Xm → Prop} (h : ((Out.ok e).bind f).sat Q E) (R : α → Env2) (hr : r = R e) (k : ∀ x, (f x).sat Q E → WB X sts (R x) G D0) : WB X sts r G D0 := by subst hr; exact k e h
theorem WG.weak {d : D} {r' : Env2} {is : List Nat} {Q : Env2 → GD → Prop} (w : Wk r r') (h : WG X tg d r' G is Q) : WG X tg d r G is Q := fun F0 T F H σ v lk S rp => h F0 T F H σ v lk (S.weak w) rp
/-- what an end of a block with a state says -/
def AtS (env : σT → Env2) (gg : σT → GD) (Q : σT → Prop) : Env2 → GD → Prop := fun r G => ∃ s, Wk r (env s) ∧ G = gg s ∧ Q s
theorem wb_join (env : σT → Env2) (gg : σT → GD) {m : Out σT} {f : σT → Out β} {Q : β → Prop} {E : Xm → Prop} (h : (m.bind f).sat Q E)
    (hs : ∀ Q' : σT → Prop, m.sat Q' E → WS X st r G { D0 with nx := AtS env gg Q' }) (k : ∀ s, (f s).sat Q E → WB X rest (env s) (gg s) D0) : WB X (st :: rest) r G D0 :=
  wb_cut (AtS env gg fun s => (f s).sat Q E) (hs _ (Out.sb h)) fun r1 G1 ⟨s, w, hg, q⟩ => by
    subst hg
    exact (k s q).weak w
theorem drop_at {xs : List α} {k : Nat} {x : α} (hx : xs[k]? = some x) : xs.drop k = x :: xs.drop (k + 1) := by
  obtain ⟨hk, hxk⟩ := List.getElem?_eq_some_iff.mp hx
  rw [List.drop_eq_getElem_cons hk, hxk]
theorem map_at {en : α → D} {xs : List α} {k : Nat} {d : D} (hd : (xs.map en)[k]? = some d) : ∃ x, xs[k]? = some x ∧ d = en x := by
  rw [List.getElem?_map] at hd
  cases hx : xs[k]? with
  | none => rw [hx] at hd; cases hd
  | some x => rw [hx] at hd; cases hd; exact ⟨x, rfl, rfl⟩
theorem wb_forO (is : List Nat) (env : σT → Env2) (gg : σT → GD) (en : α → D) (hp : PassesOwn (model X.prog X.w) X.A X.env X.xe) (hc : X.calm = true)
    (h : WI X tg e r G fun ds r2 G1 => ∃ (xs : List α) (s0 : σT) (f : σT → α → Out σT) (kk : σT → Out β) (Q : β → Prop) (E : Xm → Prop), ds = xs.map en ∧ Wk r2 (env s0) ∧ G1 = gg s0 ∧ ((Out.fold f xs s0).bind kk).sat Q E ∧
      (∀ (s : σT) (x : α) (Q' : σT → Prop), (f s x).sat Q' E → WG X tg (en x) (env s) (gg s) is fun r4 G4 => WB X body r4 G4 { D0 with nx := AtS env gg Q', ct := AtS env gg Q', bk := fun r1 G1 => WB X rest r1 G1 D0 }) ∧
      ∀ s, (kk s).sat Q E → WB X rest (env s) (gg s) D0) (hs : ∀ x, foldedSetIterable e X.env x = pure x := by intro _; rfl) : WB X (.For tg e body [] pos :: rest) r G D0 :=
  wb_cons (ws_for (is := is) hp hc (h.mono fun ds r2 G1 ⟨xs, s0, f, kk, Q, E, hd, w0, hg, h0, hb, hn⟩ => by
    subst hd hg
    refine ⟨fun k r3 G3 => AtS env gg (fun s => ((Out.fold f (xs.drop k) s).bind kk).sat Q E) r3 G3, ⟨s0, w0, rfl, h0⟩, fun k d r3 G3 hd ⟨s, w, hg, hq⟩ => ?_, fun r3 G3 ⟨s, w, hg, hq⟩ => ?_⟩
    · subst hg
      obtain ⟨x, hx, rfl⟩ := map_at hd
      rw [drop_at hx] at hq
      have hq' : (f s x).sat (fun s' => ((Out.fold f (xs.drop (k + 1)) s').bind kk).sat Q E) E := by
        have z : (((f s x).bind (Out.fold f (xs.drop (k + 1)))).bind kk).sat Q E := hq
        cases hf : f s x with
        | ok s' => rw [hf] at z; exact z
        | ex x' => rw [hf] at z; exact z
        | no => rw [hf] at z; exact z
      exact (hb s x _ hq').weak w
    · rw [List.length_map, List.drop_length] at hq
      subst hg
      exact (hn s hq).weak w) hs)
end
open Out (Rt)
section
variable {κ ν : Type} [DecidableEq κ]
def dput (kvs : List (κ × ν)) (k : κ) (v : ν) : List (κ × ν) := if (kvs.any fun p => decide (p.1 = k)) = true then kvs.map (fun p => if p.1 = k then (p.1, v) else p) else kvs ++ [(k, v)]
def dget (kvs : List (κ × ν)) (k : κ) : Option ν := (kvs.find? fun p => decide (p.1 = k)).map (·.2)
def dhas (kvs : List (κ × ν)) (k : κ) : Bool := kvs.any fun p => decide (p.1 = k)
def dmk (kvs : List (κ × ν)) : List (κ × ν) := kvs.foldl (fun acc p => dput acc p.1 p.2) []
end
section
variable {X : Cy} {e a b c o tg kx vx elt i : Expr} {es ifs : List Expr} {st : Stmt} {sts rest body orelse : List Stmt} {r : Env2} {G : GD} {pos tpos apos cpos p0 : Pos} {D0 : EndsD} {α β γ σT ρ : Type}
abbrev Blk (X : Cy) (scope : Scope) (P : Cy → Prop) : Prop := ∀ Y, BlkX X scope Y → P Y
/-- an item that is made: the state as it was -/
def Made (R : Env2) (G : GD) (is : List Nat) (d : D) : Res → Env2 → GD → Prop := fun z r2 G2 => ∃ r3, fz r2 z = some (d, r3) ∧ Wk (wipeD r3 is) R ∧ G2 = G
theorem WG.mono {d : D} {is : List Nat} {Q Q' : Env2 → GD → Prop} (h : WG X tg d r G is Q) (k : ∀ r G, Q r G → Q' r G) : WG X tg d r G is Q' := fun F0 T F H σ v lk S rp pins s u I rv =>
  wpAny_mono (h F0 T F H σ v lk S rp pins s u I rv) (fun _ _ ⟨σ', H', I', hw, r', G', F', e', S', q'⟩ => ⟨σ', H', I', hw, r', G', F', e', S', k _ _ q'⟩) fun _ _ x => x
/-- what is known of slots is forgotten behind an expression -/
theorem WE.wkp {Q : Res → Env2 → GD → Prop} (h : WE X e r G fun x r1 G1 => ∃ R, Wk r1 R ∧ (∀ i, x ≠ .pk i) ∧ Q x R G1) : WE X e r G Q := fun F0 T F H σ lk S =>
  (h F0 T F H σ lk S).mono fun v H1 ⟨x, r1, G1, F1, e1, S1, k1, R, w, hx, q⟩ => by
    refine ⟨x, R, G1, F1, e1, S1.weak w, ?_, q⟩
    cases x with
    | sh d => exact k1
    | pk i => exact absurd rfl (hx i)
    | fr d =>
      obtain ⟨p, z1, z2, z3, z4, z5, z6⟩ := k1
      refine ⟨p, z1, z2, z3, z4, z5, fun i e he => ?_⟩
      rcases w.get i _ he with z | z
      · cases z
      · exact z6 i e z
/-- what a comprehension asks of its turns -/
def LcPre (X : Cy) (scope : Scope) (tg e elt : Expr) (ifs : List Expr) (is : List Nat) (r : Env2) (G : GD) (Q : Res → Env2 → GD → Prop) : Prop :=
  WI X tg e r G fun ds r2 G1 => ∃ I : Nat → List D → Env2 → GD → Prop, I 0 [] (wipeD r2 is) G1 ∧ (∀ (k : Nat) (d : D) (acc : List D) (r3 : Env2) (G3 : GD), ds[k]? = some d → I k acc r3 G3 → LcTurn X scope tg elt ifs is d acc r3 G3 (I (k + 1))) ∧
      ∀ acc r3 G3, I ds.length acc r3 G3 → Q (.fr (.lst acc)) r3 G3
/-- .. its result known at R -/
def atR (Q : Res → Env2 → GD → Prop) : Res → Env2 → GD → Prop := fun x r1 G1 => ∃ R, Wk r1 R ∧ (∀ i, x ≠ .pk i) ∧ Q x R G1
theorem Wk.set {a b : Env2} (w : Wk a b) (s : Sl) : ∀ i, Wk (a.set i s) (b.set i s) := by
  induction w with
  | nil => intro i; exact .nil
  | no h ih => intro i; cases i with
    | zero => exact .eq h
    | succ i => exact .no (ih i)
  | eq h ih => intro i; cases i with
    | zero => exact .eq h
    | succ i => exact .eq (ih i)
theorem we_lcQ {scope : Scope} (own : List (Str × Nat)) {Q : Res → Env2 → GD → Prop} (hc : X.calm = true) (hN : X.N.Nodup) (ok : BlkOk X.N X.env.scope scope own) (h : LcPre X scope tg e elt ifs (own.map (·.2)) r G (atR Q)) (hs : ∀ x, foldedSetIterable e X.env x = pure x := by intro _; rfl) :
    WE X (.ListComp elt [⟨tg, e, ifs, 0⟩] scope pos) r G Q := WE.wkp (we_lc own hc hN ok h hs)
/-- y = [..] -/
theorem wb_setLcQ {scope : Scope} (own : List (Str × Nat)) (i : Nat) {y : Str} {py spos : Pos} (hc : X.calm = true) (hN : X.N.Nodup) (hy : X.N[i]? = some y) (hyl : X.env.scope.names.lookup y = some .local)
    (hsw : swapsWith (.ListComp elt [⟨tg, e, ifs, 0⟩] scope pos) (some (.Name y py)) spos.line X.env = pure true) (ok : BlkOk X.N X.env.scope scope own)
    (h : LcPre X scope tg e elt ifs (own.map (·.2)) r G (atR fun x R G1 => i < R.length ∧ ∃ R', putS R i x = some R' ∧ WB X rest R' G1 D0)) (hs : ∀ x, foldedSetIterable e X.env x = pure x := by intro _; rfl) :
    WB X (.Assign [.Name y py] (.ListComp elt [⟨tg, e, ifs, 0⟩] scope pos) spos :: rest) r G D0 :=
  wb_cons (ws_setLc own i hc hN hy hyl hsw ok (WI.mono h fun ds r2 G1 ⟨I, i0, it, ie⟩ => ⟨I, i0, it, fun acc r3 G3 q => by
    obtain ⟨R, w, _, hi, R', hR, k⟩ := ie acc r3 G3 q
    cases hR
    exact ⟨by rw [← w.len]; exact hi, _, rfl, k.weak (w.set _ i)⟩⟩) hs)
/-- [elt for tg in e], nothing that may fail -/
theorem lc0_pre {scope : Scope} (own : List (Str × Nat)) (R : Env2) {en : α → D} (ey : β → D) (g : α → β) {Q : Res → Env2 → GD → Prop}
    (h : WI X tg e r G fun ds r2 G1 => ∃ xs : List α, ds = xs.map en ∧ xs.length ≤ LIM ∧ Wk (wipeD r2 (own.map (·.2))) R ∧
      (∀ x, Blk X scope fun Y => WG Y tg (en x) R G1 (own.map (·.2)) fun r3 G3 => Blk X scope fun Y => WE Y elt r3 G3 (Made R G1 (own.map (·.2)) (ey (g x)))) ∧ Q (.fr (.lst ((xs.map g).map ey))) R G1) : LcPre X scope tg e elt [] (own.map (·.2)) r G (atR Q) :=
  h.mono fun ds r2 G1 ⟨xs, hd, hl, w, hb, q⟩ => by
    subst hd
    refine ⟨fun k acc r3 G3 => Wk r3 R ∧ G3 = G1 ∧ acc = ((xs.take k).map g).map ey, ⟨w, rfl, rfl⟩, fun k d acc r3 G3 hd ⟨w3, hG, ha⟩ => ?_, fun acc r3 G3 ⟨w3, hG, ha⟩ => ?_⟩
    · subst hG ha
      obtain ⟨x, hx, rfl⟩ := map_at hd
      have hlt : k < xs.length := (List.getElem?_eq_some_iff.mp hx).1
      intro Y hY
      refine WG.mono (WG.weak w3 (hb x Y hY)) fun r4 G4 q' Y hY => (q' Y hY).mono fun zz r5 G5 ⟨r6, m1, m2, m3⟩ => ⟨ey (g x), r6, m1, ?_, m2, m3, ?_⟩
      · rw [List.length_map, List.length_map, List.length_take]; omega
      · rw [List.take_add_one, hx, List.map_append, List.map_append]; rfl
    · subst hG ha
      rw [List.length_map, List.take_length]
      exact ⟨R, w3, (fun i z => by cases z), q⟩
/-- [elt for tg in e if ..], by a mirror with a state -/
theorem compS_step {f : σT → α → Out (Option β × σT)} {xs : List α} {acc : List β} {s : σT} {x : α} {kk : List β × σT → Out γ} {Q : γ → Prop} {E : Xm → Prop} (h : ((Out.compS f (x :: xs) acc s).bind kk).sat Q E) :
    (f s x).sat (fun t => ((Out.compS f xs (match t.1 with | some y => acc ++ [y] | none => acc) t.2).bind kk).sat Q E) E := by
  have z : (((f s x).bind fun t => Out.compS f xs (match t.1 with | some y => acc ++ [y] | none => acc) t.2).bind kk).sat Q E := h
  cases hf : f s x with
  | ok t => rw [hf] at z; exact z
  | ex x' => rw [hf] at z; exact z
  | no => rw [hf] at z; exact z
theorem lcS_pre {scope : Scope} (own : List (Str × Nat)) (R : Env2) (gg : σT → GD) {en : α → D} (ey : β → D) {Q : Res → Env2 → GD → Prop}
    (h : WI X tg e r G fun ds r2 G1 => ∃ (xs : List α) (s0 : σT) (f : σT → α → Out (Option β × σT)) (kk : List β × σT → Out γ) (Q0 : γ → Prop) (E : Xm → Prop), ds = xs.map en ∧ xs.length ≤ LIM ∧ Wk (wipeD r2 (own.map (·.2))) R ∧ G1 = gg s0 ∧ ((Out.compS f xs [] s0).bind kk).sat Q0 E ∧
      (∀ s x (Q' : Option β × σT → Prop), (f s x).sat Q' E → Blk X scope fun Y => WG Y tg (en x) R (gg s) (own.map (·.2)) fun r3 G3 => match ifs with
        | [] => Blk X scope fun Y => WE Y elt r3 G3 fun z r4 G4 => ∃ y s' r5, fz r4 z = some (ey y, r5) ∧ Wk (wipeD r5 (own.map (·.2))) R ∧ G4 = gg s' ∧ Q' (some y, s')
        | [c] => Blk X scope fun Y => WT Y c r3 G3 fun b r4 G4 => (b = true → Blk X scope fun Y => WE Y elt r4 G4 fun z r5 G5 => ∃ y s' r6, fz r5 z = some (ey y, r6) ∧ Wk (wipeD r6 (own.map (·.2))) R ∧ G5 = gg s' ∧ Q' (some y, s')) ∧ (b = false → ∃ s', Wk (wipeD r4 (own.map (·.2))) R ∧ G4 = gg s' ∧ Q' (none, s'))
        | _ => False) ∧ ∀ ys s', (kk (ys, s')).sat Q0 E → Q (.fr (.lst (ys.map ey))) R (gg s')) : LcPre X scope tg e elt ifs (own.map (·.2)) r G (atR Q) :=
  h.mono fun ds r2 G1 ⟨xs, s0, f, kk, Q0, E, hd, hl, w, hg, h0, hb, hq⟩ => by
    subst hd hg
    refine ⟨fun k acc r3 G3 => ∃ ys s, Wk r3 R ∧ G3 = gg s ∧ acc = ys.map ey ∧ ys.length ≤ k ∧ ((Out.compS f (xs.drop k) ys s).bind kk).sat Q0 E, ⟨[], s0, w, rfl, rfl, Nat.le_refl _, h0⟩, fun k d acc r3 G3 hd ⟨ys, s, w3, hG, ha, hly, hq3⟩ => ?_, fun acc r3 G3 ⟨ys, s, w3, hG, ha, hly, hq3⟩ => ?_⟩
    · subst hG ha
      obtain ⟨x, hx, rfl⟩ := map_at hd
      have hlt : k < xs.length := (List.getElem?_eq_some_iff.mp hx).1
      rw [drop_at hx] at hq3
      have st := hb s x _ (compS_step hq3)
      have lim : (ys.map ey).length < LIM := by rw [List.length_map]; omega
      intro Y hY
      refine WG.mono (WG.weak w3 (st Y hY)) fun r4 G4 q' => ?_
      match ifs, q' with
      | [], q' =>
        refine fun Y hY => (q' Y hY).mono fun zz r5 G5 ⟨y, s', r6, m1, m2, m3, m4⟩ => ⟨ey y, r6, m1, lim, ys ++ [y], s', m2, m3, by rw [List.map_append]; rfl, by rw [List.length_append]; exact Nat.succ_le_succ hly, m4⟩
      | [c], q' =>
        refine fun Y hY => (q' Y hY).mono fun b r5 G5 ⟨q1, q2⟩ => ⟨fun hb1 Y hY => ?_, fun hb0 => ?_⟩
        · exact (q1 hb1 Y hY).mono fun zz r6 G6 ⟨y, s', r7, m1, m2, m3, m4⟩ => ⟨ey y, r7, m1, lim, ys ++ [y], s', m2, m3, by rw [List.map_append]; rfl, by rw [List.length_append]; exact Nat.succ_le_succ hly, m4⟩
        · obtain ⟨s', m2, m3, m4⟩ := q2 hb0
          exact ⟨ys, s', m2, m3, rfl, Nat.le_succ_of_le hly, m4⟩
      | _ :: _ :: _, q' => exact q'.elim
    · subst hG ha
      rw [List.length_map, List.drop_length] at hq3
      exact ⟨R, w3, (fun i z => by cases z), hq ys s hq3⟩
end
open Out (Rt)
section
variable {X : Cy} {e a b c o tg kx vx elt i : Expr} {es ifs : List Expr} {st : Stmt} {sts rest body orelse : List Stmt} {r : Env2} {G : GD} {pos tpos apos cpos p0 : Pos} {D0 : EndsD} {α β γ σT ρ : Type}
theorem we_ifP {en : α → D} {va vb : α} {Q : Res → Env2 → GD → Prop} (h : WT X c r G fun d r1 G1 => (d = true → WE X a r1 G1 fun x r2 G2 => x = .sh (en va) ∧ r2 = r1 ∧ G2 = G1) ∧ (d = false → WE X b r1 G1 fun x r2 G2 => x = .sh (en vb) ∧ r2 = r1 ∧ G2 = G1) ∧ Q (.sh (en (if d = true then va else vb))) r1 G1) : WE X (.IfExp c a b pos) r G Q :=
  we_ifExp (h.mono fun d r1 G1 ⟨h1, h2, q⟩ => ⟨fun hd => (h1 hd).mono fun x r2 G2 ⟨m1, m2, m3⟩ => by subst m1 m2 m3; rw [if_pos hd] at q; exact q, fun hd => (h2 hd).mono fun x r2 G2 ⟨m1, m2, m3⟩ => by subst m1 m2 m3; rw [if_neg (by rw [hd]; exact Bool.false_ne_true)] at q; exact q⟩)
/-- a test as a value, joined -/
theorem we_andP {c2 : Bool} {Q : Res → Env2 → GD → Prop} (h : WE X a r G fun x r1 G1 => ∃ c1, x = .sh (.bl c1) ∧ (c1 = true → WE X (.BoolOp .And (b :: es) pos) r1 G1 fun y r2 G2 => y = .sh (.bl c2) ∧ r2 = r1 ∧ G2 = G1) ∧ Q (.sh (.bl (c1 && c2))) r1 G1) : WE X (.BoolOp .And (a :: b :: es) pos) r G Q :=
  we_and (h.mono fun x r1 G1 ⟨c1, hx, h1, q⟩ => ⟨c1, hx, fun hc => (h1 hc).mono fun y r2 G2 ⟨m1, m2, m3⟩ => by subst m1 m2 m3; rw [hc, Bool.true_and] at q; exact q, fun hc => by rw [hc, Bool.false_and] at q; exact q⟩)
end
section
variable {α β γ : Type}
/-- an item by a Python index -/
def pix (xs : List α) (i : Int) : Option α := (ixN xs.length i).bind fun j => xs[j]?
theorem atD_map {f : α → D} {xs : List α} {i : Int} {x : α} (h : pix xs i = some x) : atD (xs.map f) i = some (f x) := by
  unfold pix at h
  unfold atD
  rw [List.length_map]
  cases e : ixN xs.length i with
  | none => rw [e] at h; cases h
  | some j =>
    rw [e] at h
    show (xs.map f)[j]? = some (f x)
    rw [List.getElem?_map, show xs[j]? = some x from h]; rfl
/-- a slice by Python bounds -/
def pcut (xs : List α) (lo hi : Option Int) : List α := (xs.drop (HT.sIx xs.length 0 lo)).take (HT.sIx xs.length xs.length hi - HT.sIx xs.length 0 lo)
theorem cutD_map {f : α → D} (xs : List α) (lo hi : Option Int) : cutD (xs.map f) lo hi = (pcut xs lo hi).map f := by
  unfold cutD pcut
  rw [List.length_map, List.map_take, List.map_drop]
/-- codes whose equality is that of the values -/
structure EqC (en : α → D) (n : Nat) : Prop where
  ok : ∀ a, okD n (en a)
  eq : ∀ a b, eqD (en a) (en b) = true ↔ a = b
theorem EqC.dec [DecidableEq α] {en : α → D} {n : Nat} (h : EqC en n) (a b : α) : eqD (en a) (en b) = decide (a = b) := by
  by_cases e : a = b
  · rw [decide_eq_true e]; exact (h.eq a b).mpr e
  · rw [decide_eq_false e]
    cases q : eqD (en a) (en b) with
    | false => rfl
    | true => exact absurd ((h.eq a b).mp q) e
theorem eqc_int : EqC eI 0 := ⟨fun _ => trivial, fun a b => by
  show PyData.eqv (.int a) (.int b) = true ↔ a = b
  exact beq_iff_eq⟩
end
open Out (Rt)
abbrev S := { x : Str // PyData.strOk x = true }
abbrev eZ : S → D := fun s => .str s.1
theorem eqc_bool : EqC eB 0 := ⟨fun _ => trivial, fun a b => by
  show PyData.eqv (.bool a) (.bool b) = true ↔ a = b
  exact beq_iff_eq⟩
theorem eqc_str : EqC eZ 0 := ⟨fun a => a.2, fun a b => by
  show PyData.eqv (.str a.1) (.str b.1) = true ↔ a = b
  rw [show PyData.eqv (.str a.1) (.str b.1) = (a.1 == b.1) from rfl, beq_iff_eq]
  exact ⟨Subtype.ext, congrArg _⟩⟩
theorem eqv_all {α : Type} {f : α → D} {n : Nat} (h : EqC f n) : ∀ xs ys : List α, PyData.eqvAll (toPs (xs.map f)) (toPs (ys.map f)) = true ↔ xs = ys
  | [], [] => by simp [toPs, PyData.eqvAll]
  | [], y :: ys => by simp [toPs, PyData.eqvAll]
  | x :: xs, [] => by simp [toPs, PyData.eqvAll]
  | x :: xs, y :: ys => by
    show (PyData.eqv (toP (f x)) (toP (f y)) && PyData.eqvAll (toPs (xs.map f)) (toPs (ys.map f))) = true ↔ _
    rw [Bool.and_eq_true, eqv_all h xs ys, show PyData.eqv (toP (f x)) (toP (f y)) = true ↔ x = y from h.eq x y, List.cons.injEq]
theorem eqc_tup {α : Type} {f : α → D} {n : Nat} (h : EqC f n) : EqC (eT f) (n + 1) := ⟨fun xs d hd => by
  obtain ⟨x, _, rfl⟩ := List.mem_map.mp hd
  exact h.ok x, fun a b => eqv_all h a b⟩
theorem eqc_lst {α : Type} {f : α → D} {n : Nat} (h : EqC f n) : EqC (eL f) (n + 1) := ⟨fun xs d hd => by
  obtain ⟨x, _, rfl⟩ := List.mem_map.mp hd
  exact h.ok x, fun a b => eqv_all h a b⟩
theorem eqc_trip {α β γ : Type} {f : α → D} {g : β → D} {k : γ → D} {n : Nat} (h : EqC f n) (h2 : EqC g n) (h3 : EqC k n) : EqC (eP3 f g k) (n + 1) := ⟨fun p d hd => by
  rcases List.mem_cons.mp hd with rfl | hd
  · exact h.ok _
  · rcases List.mem_cons.mp hd with rfl | hd
    · exact h2.ok _
    · rcases List.mem_cons.mp hd with rfl | hd
      · exact h3.ok _
      · exact absurd hd List.not_mem_nil, fun a b => by
  show (PyData.eqv (toP (f a.1)) (toP (f b.1)) && (PyData.eqv (toP (g a.2.1)) (toP (g b.2.1)) && (PyData.eqv (toP (k a.2.2)) (toP (k b.2.2)) && true))) = true ↔ _
  rw [Bool.and_true, Bool.and_eq_true, Bool.and_eq_true, show PyData.eqv (toP (f a.1)) (toP (f b.1)) = true ↔ _ from h.eq _ _, show PyData.eqv (toP (g a.2.1)) (toP (g b.2.1)) = true ↔ _ from h2.eq _ _, show PyData.eqv (toP (k a.2.2)) (toP (k b.2.2)) = true ↔ _ from h3.eq _ _, Prod.ext_iff, Prod.ext_iff]⟩
section
variable {X : Cy} {e a b c o tg kx vx elt i : Expr} {es ifs : List Expr} {st : Stmt} {sts rest body orelse : List Stmt} {r : Env2} {G : GD} {pos tpos apos cpos p0 : Pos} {D0 : EndsD} {α β γ σT ρ : Type}
theorem opw_eqC [DecidableEq α] {en : α → D} {n : Nat} (h : EqC en n) (hu : X.A.units + 64 < cLine) (x y : α) {Q : Res → Prop} (q : Q (.sh (.bl (decide (x = y))))) (hn : n ≤ 64 := by decide) : OpW X (compareOp .Eq) (en x) (en y) Q :=
  opw_eqD hu (h.ok x) (h.ok y) hn (by rw [h.dec]; exact q)
theorem opw_neC [DecidableEq α] {en : α → D} {n : Nat} (h : EqC en n) (hu : X.A.units + 64 < cLine) (x y : α) {Q : Res → Prop} (q : Q (.sh (.bl (!decide (x = y))))) (hn : n ≤ 64 := by decide) : OpW X (compareOp .NotEq) (en x) (en y) Q :=
  opw_neD hu (h.ok x) (h.ok y) hn (by rw [h.dec]; exact q)
theorem t_cat {f : α → D} (xs ys : List α) {Q : Res → Prop} (hl : xs.length + ys.length ≤ LIM) (q : Q (.fr (.lst ((xs ++ ys).map f)))) : OpW X (binaryOp .Add) (.lst (xs.map f)) (.lst (ys.map f)) Q :=
  opw_cat (by rw [List.length_map, List.length_map]; exact hl) (by rw [List.map_append] at q; exact q)
theorem t_len {f : α → D} (xs : List α) {Q : Res → Prop} (q : Q (.sh (.int (xs.length : Nat)))) : CallW1 X (.builtin "len") (.lst (xs.map f)) Q := c_len (by rw [List.length_map]; exact q)
theorem t_lenT {f : α → D} (xs : List α) {Q : Res → Prop} (q : Q (.sh (.int (xs.length : Nat)))) : CallW1 X (.builtin "len") (.tup (xs.map f)) Q := c_lenT (by rw [List.length_map]; exact q)
theorem t_ix {f : α → D} {xs : List α} {i : Int} {x : α} {Q : Res → Prop} (h : pix xs i = some x) (q : Q (.sh (f x))) : IxW X (.lst (xs.map f)) (.int i) Q := ixw_lst (atD_map h) q
theorem t_ixT {f : α → D} {xs : List α} {i : Int} {x : α} {Q : Res → Prop} (h : pix xs i = some x) (q : Q (.sh (f x))) : IxW X (.tup (xs.map f)) (.int i) Q := ixw_tup (atD_map h) q
theorem t_slT {f : α → D} {xs : List α} {lo hi : Option Int} {Q : Res → Prop} (q : Q (.sh (.tup ((pcut xs lo hi).map f)))) : SlW X (.tup (xs.map f)) lo hi Q := slw_tup (by rw [cutD_map]; exact q)
/-- xs.append(e), xs an own slot -/
theorem we_appendT {f : α → D} {Q : Res → Env2 → GD → Prop}
    (h : WE X o r G fun x r1 G1 => ∃ i xs0, x = .pk i ∧ r1[i]? = some (.own (.lst (List.map f xs0))) ∧ WE X e r1 G1 fun y r2 G2 => ∃ z r3 xs, fz r2 y = some (f z, r3) ∧ r3[i]? = some (.own (.lst (List.map f xs))) ∧ xs.length < LIM ∧ Q (.sh .non) (r3.set i (.own (.lst ((xs ++ [z]).map f)))) G2)
    (hbase : attributeBase o "append" X.env (eval o X.env) = eval o X.env := by rfl)
    (hfew : ((backTo cpos (starEach [e] X.env)).all (fun x => !x.1) && (backToKw cpos (keywordEach [] X.env)).all (fun x => x.1.isSome) && decide (([e] : List Expr).length + ([] : List Keyword).length + (if ([] : List Keyword).isEmpty then 0 else 1) < 30)) = true := by rfl)
    (hline : (apos.endLine == cpos.line) = true := by rfl) (hs : starEach [e] X.env = (false, eval e X.env) :: starEach [] X.env := by rfl) (hplain : (backTo cpos (starEach [] X.env)).any (·.1) = false := by rfl) :
    WE X (.Call (.Attribute o "append" apos) [e] [] cpos) r G Q :=
  we_append (h.mono fun x r1 G1 ⟨i, xs0, h1, h2, h3⟩ => ⟨i, _, h1, h2, h3.mono fun y r2 G2 ⟨z, r3, xs, k1, k2, k3, k4⟩ => ⟨f z, r3, _, k1, k2, by rw [List.length_map]; exact k3, by rw [List.map_append] at k4; exact k4⟩⟩) hbase hfew hline hs hplain
def penumF (k : Nat) : List α → List (Int × α)
  | [] => []
  | x :: xs => ((k : Int), x) :: penumF (k + 1) xs
/-- enumerate -/
def penum (xs : List α) : List (Int × α) := penumF 0 xs
theorem enum_map {f : α → D} : ∀ (xs : List α) (k : Nat), enumD k (xs.map f) = (penumF k xs).map (eP eI f)
  | [], k => rfl
  | x :: xs, k => by
    rw [List.map_cons]
    show D.tup [.int (k : Int), f x] :: enumD (k + 1) (xs.map f) = _
    rw [enum_map xs (k + 1)]; rfl
theorem penumF_len : ∀ (xs : List α) (k : Nat), (penumF k xs).length = xs.length
  | [], _ => rfl
  | x :: xs, k => by unfold penumF; rw [List.length_cons, List.length_cons, penumF_len xs]
section
variable {elts : List Expr} {kk : Nat}
theorem ti_lst {f : α → D} {Q : List D → Env2 → GD → Prop} (h : WE X e r G fun x r1 G1 => ∃ xs r2, fz r1 x = some (.lst (List.map f xs), r2) ∧ (xs.length ≤ LIM → Q (xs.map f) r2 G1)) : WI X tg e r G Q :=
  wi_lst (h.mono fun x r1 G1 ⟨xs, r2, h1, h2⟩ => ⟨_, r2, h1, fun hl => h2 (by rw [List.length_map] at hl; exact hl)⟩)
theorem ti_tup {f : α → D} {Q : List D → Env2 → GD → Prop} (h : WE X e r G fun x r1 G1 => ∃ xs r2, fz r1 x = some (.tup (List.map f xs), r2) ∧ (xs.length ≤ LIM → Q (xs.map f) r2 G1)) : WI X tg e r G Q :=
  wi_tup (h.mono fun x r1 G1 ⟨xs, r2, h1, h2⟩ => ⟨_, r2, h1, fun hl => h2 (by rw [List.length_map] at hl; exact hl)⟩)
theorem ti_enumT {f : α → D} {Q : List D → Env2 → GD → Prop} (hg : Gl X "enumerate") (hm : X.mg "enumerate" = none) (h : WE X a r G fun x r1 G1 => ∃ xs r2, fz r1 x = some (.tup (List.map f xs), r2) ∧ ((penum xs).length ≤ LIM → Q ((penum xs).map (eP eI f)) r2 G1)) (hst : starEach [a] X.env = [(false, eval a X.env)] := by rfl) :
    WI X (.Tuple elts kk tpos) (.Call (.Name "enumerate" p0) [a] [] pos) r G Q :=
  wi_enumT hg hm (h.mono fun x r1 G1 ⟨xs, r2, h1, h2⟩ => ⟨_, r2, h1, fun hl => by rw [enum_map]; exact h2 (by unfold penum; rw [penumF_len]; rw [List.length_map] at hl; exact hl)⟩) hst
theorem ti_revL {f : α → D} {Q : List D → Env2 → GD → Prop} (hg : Gl X "reversed") (hm : X.mg "reversed" = none) (h : WE X a r G fun x r1 G1 => ∃ xs r2, fz r1 x = some (.lst (List.map f xs), r2) ∧ (xs.reverse.length ≤ LIM → Q (xs.reverse.map f) r2 G1)) (hst : starEach [a] X.env = (false, eval a X.env) :: starEach [] X.env := by rfl) :
    WI X tg (.Call (.Name "reversed" p0) [a] [] pos) r G Q :=
  wi_revL hg hm (h.mono fun x r1 G1 ⟨xs, r2, h1, h2⟩ => ⟨_, r2, h1, fun hl => by rw [← List.map_reverse]; exact h2 (by rw [List.length_reverse]; rw [List.length_map] at hl; exact hl)⟩) hst
end
/-- max, min of a list of ints -/
def maxI : List Int → Option Int
  | [] => none
  | x :: xs => some (xs.foldl (fun a b => if a < b then b else a) x)
def minI : List Int → Option Int
  | [] => none
  | x :: xs => some (xs.foldl (fun a b => if b < a then b else a) x)
theorem fold_max : ∀ (xs : List Int) (x : Int), (xs.foldl (fun a b => if a < b then b else a) x ∈ x :: xs) ∧ ∀ y ∈ x :: xs, y ≤ xs.foldl (fun a b => if a < b then b else a) x
  | [], x => ⟨List.mem_cons_self, fun y hy => by cases List.mem_singleton.mp hy; exact Int.le_refl _⟩
  | z :: xs, x => by
    rw [List.foldl_cons]
    by_cases hxz : x < z
    · rw [if_pos hxz]
      obtain ⟨h1, h2⟩ := fold_max xs z
      have h3 := h2 _ List.mem_cons_self
      refine ⟨List.mem_cons_of_mem _ h1, fun y hy => ?_⟩
      rcases List.mem_cons.mp hy with rfl | hy
      · omega
      · exact h2 y hy
    · rw [if_neg hxz]
      obtain ⟨h1, h2⟩ := fold_max xs x
      have h3 := h2 _ List.mem_cons_self
      refine ⟨?_, fun y hy => ?_⟩
      · rcases List.mem_cons.mp h1 with h | h
        · rw [h]; exact List.mem_cons_self
        · exact List.mem_cons_of_mem _ (List.mem_cons_of_mem _ h)
      · rcases List.mem_cons.mp hy with rfl | hy
        · exact h3
        · rcases List.mem_cons.mp hy with rfl | hy
          · omega
          · exact h2 y (List.mem_cons_of_mem _ hy)
theorem fold_min : ∀ (xs : List Int) (x : Int), (xs.foldl (fun a b => if b < a then b else a) x ∈ x :: xs) ∧ ∀ y ∈ x :: xs, xs.foldl (fun a b => if b < a then b else a) x ≤ y
  | [], x => ⟨List.mem_cons_self, fun y hy => by cases List.mem_singleton.mp hy; exact Int.le_refl _⟩
  | z :: xs, x => by
    rw [List.foldl_cons]
    by_cases hxz : z < x
    · rw [if_pos hxz]
      obtain ⟨h1, h2⟩ := fold_min xs z
      have h3 := h2 _ List.mem_cons_self
      refine ⟨List.mem_cons_of_mem _ h1, fun y hy => ?_⟩
      rcases List.mem_cons.mp hy with rfl | hy
      · omega
      · exact h2 y hy
    · rw [if_neg hxz]
      obtain ⟨h1, h2⟩ := fold_min xs x
      have h3 := h2 _ List.mem_cons_self
      refine ⟨?_, fun y hy => ?_⟩
      · rcases List.mem_cons.mp h1 with h | h
        · rw [h]; exact List.mem_cons_self
        · exact List.mem_cons_of_mem _ (List.mem_cons_of_mem _ h)
      · rcases List.mem_cons.mp hy with rfl | hy
        · exact h3
        · rcases List.mem_cons.mp hy with rfl | hy
          · omega
          · exact h2 y (List.mem_cons_of_mem _ hy)
theorem maxI_spec {xs : List Int} {m : Int} (h : maxI xs = some m) : m ∈ xs ∧ ∀ y ∈ xs, y ≤ m := by
  cases xs with
  | nil => cases h
  | cons x xs => cases h; exact fold_max xs x
theorem minI_spec {xs : List Int} {m : Int} (h : minI xs = some m) : m ∈ xs ∧ ∀ y ∈ xs, m ≤ y := by
  cases xs with
  | nil => cases h
  | cons x xs => cases h; exact fold_min xs x
theorem t_max {Q : Res → Prop} {ns : List Int} {m : Int} (hc : X.calm = true) (h : maxI ns = some m) (q : Q (.sh (.int m))) : CallW1 X (.builtin "max") (.lst (ns.map D.int)) Q :=
  c_maxL hc (fun z => by subst z; cases h) fun m' h1 h2 => by
    obtain ⟨k1, k2⟩ := maxI_spec h
    rw [show m' = m from Int.le_antisymm (k2 _ h1) (h2 _ k1)]; exact q
theorem t_min {Q : Res → Prop} {ns : List Int} {m : Int} (hc : X.calm = true) (h : minI ns = some m) (q : Q (.sh (.int m))) : CallW1 X (.builtin "min") (.lst (ns.map D.int)) Q :=
  c_minL hc (fun z => by subst z; cases h) fun m' h1 h2 => by
    obtain ⟨k1, k2⟩ := minI_spec h
    rw [show m' = m from Int.le_antisymm (h2 _ k1) (k2 _ h1)]; exact q
/-- the first place of a number -/
def idxI (k : Int) : List Int → Option Nat
  | [] => none
  | x :: xs => if x = k then some 0 else (idxI k xs).map (· + 1)
theorem idxI_spec {k : Int} : ∀ {xs : List Int} {j : Nat}, idxI k xs = some j → xs[j]? = some k ∧ ∀ m, m < j → xs[m]? ≠ some k
  | [], j, h => by cases h
  | x :: xs, j, h => by
    unfold idxI at h
    by_cases hx : x = k
    · rw [if_pos hx] at h; cases h
      exact ⟨by rw [hx]; rfl, fun m hm => absurd hm (Nat.not_lt_zero m)⟩
    · rw [if_neg hx] at h
      cases hi : idxI k xs with
      | none => rw [hi] at h; cases h
      | some j' =>
        rw [hi] at h; cases h
        obtain ⟨h1, h2⟩ := idxI_spec hi
        refine ⟨by rw [List.getElem?_cons_succ]; exact h1, fun m hm => ?_⟩
        cases m with
        | zero => intro z; simp at z; exact hx z
        | succ m => rw [List.getElem?_cons_succ]; exact h2 m (by have hm2 : m + 1 < j' + 1 := hm; omega)
theorem t_index {Q : Res → Prop} {ns : List Int} {k : Int} {j : Nat} (h : idxI k ns = some j) (q : Q (.sh (.int (j : Nat)))) : MtW X "list.index" (.lst (ns.map D.int)) (.int k) Q := mw_index (idxI_spec h).1 (idxI_spec h).2 q
end
open Out (Rt)
/-- a text of the mirrors -/
abbrev zs (x : Str) (h : PyData.strOk x = true := by decide) : S := ⟨x, h⟩
section
variable {X : Cy} {e a b c o tg kx vx elt i : Expr} {es ifs : List Expr} {st : Stmt} {sts rest body orelse : List Stmt} {r : Env2} {G : GD} {pos tpos apos cpos p0 : Pos} {D0 : EndsD} {α β γ σT ρ : Type}
/-- [elt for tg in e if ..], by a mirror with a state -/
theorem lcS_preP {scope : Scope} (own : List (Str × Nat)) (R : Env2) (gg : σT → GD) {en : α → D} (ey : β → D) {Q : Res → Env2 → GD → Prop}
    (h : WI X tg e r G fun ds r2 G1 => ∃ (xs : List α) (s0 : σT) (f : σT → α → Out (Option β × σT)) (kk : List β × σT → Out γ) (Q0 : γ → Prop) (E : Xm → Prop), ds = xs.map en ∧ xs.length ≤ LIM ∧ Wk (wipeD r2 (own.map (·.2))) R ∧ G1 = gg s0 ∧ ((Out.compS f xs [] s0).bind kk).sat Q0 E ∧
      (∀ s x (Q' : Option β × σT → Prop), (f s x).sat Q' E → Blk X scope fun Y => WG Y tg (en x) R (gg s) (own.map (·.2)) fun r3 G3 => match ifs with
        | [] => Blk X scope fun Y => WE Y elt r3 G3 fun z r4 G4 => ∃ y s' r5, fz r4 z = some (ey y, r5) ∧ Wk (wipeD r5 (own.map (·.2))) R ∧ G4 = gg s' ∧ Q' (some y, s')
        | [c] => Blk X scope fun Y => WT Y c r3 G3 fun b r4 G4 => (b = true → Blk X scope fun Y => WE Y elt r4 G4 fun z r5 G5 => ∃ y s' r6, fz r5 z = some (ey y, r6) ∧ Wk (wipeD r6 (own.map (·.2))) R ∧ G5 = gg s' ∧ Q' (some y, s')) ∧ (b = false → ∃ s', Wk (wipeD r4 (own.map (·.2))) R ∧ G4 = gg s' ∧ Q' (none, s'))
        | _ => False) ∧ ∀ p : List β × σT, (kk p).sat Q0 E → Q (.fr (.lst (p.1.map ey))) R (gg p.2)) : LcPre X scope tg e elt ifs (own.map (·.2)) r G (atR Q) :=
  lcS_pre own R gg ey (h.mono fun ds r2 G1 ⟨xs, s0, f, kk, Q0, E, h1, h2, h3, h4, h5, h6, h7⟩ => ⟨xs, s0, f, kk, Q0, E, h1, h2, h3, h4, h5, h6, fun ys s' q => h7 (ys, s') q⟩)
/-- [x] * n -/
def rRepR : R2 := fun x y H Q => ∃ l k xs, x = .ref l ∧ y = .int k ∧ Rd H l (.lst xs) ∧ -(2 ^ 63) ≤ k ∧ k < 2 ^ 63 ∧ xs.length * k.toNat ≤ sizeLine ∧
  ∀ p, H p = none → Q (.ref p) (upd H p (.lst (List.replicate k.toNat xs).flatten))
theorem op_repR {X : Cx} : OpR X (binaryOp .Mult) rRepR := by
  intro pins s σ H x y v u Q I rx ry h
  obtain ⟨l, k, xs, rfl, rfl, hH, h1, h2, hz, q⟩ := h
  cases rx
  obtain ⟨t, rfl⟩ := ry
  obtain ⟨z, its, n, r, e⟩ := lst_of I hH
  have hl := r.length
  have hlen : its.toArray.size * k.toNat ≤ sizeLine := by rw [List.size_toArray, ← hl]; exact hz
  have hcap : ¬ its.toArray.size * k.toNat > (2 ^ 63 - 1) / 8 := by
    have : (sizeLine : Nat) ≤ (2 ^ 63 - 1) / 8 := by decide
    omega
  have hfit : ¬ (!Builtin.List.listFitsIndex k) = true := by
    rw [fitsIndex_both h1 h2]
    exact Bool.false_ne_true
  have hlong : ¬ Builtin.List.listTooLong (its.toArray.size * k.toNat) = true := by
    rw [notLongL hlen]
    exact Bool.false_ne_true
  have hnew : List.foldl (fun x1 x2 => x1 ++ x2) #[] (List.replicate (if its.toArray.isEmpty = true then 0 else k.toNat) its.toArray) = (List.replicate k.toNat its).flatten.toArray := by
    have f0 : ∀ m : Nat, List.foldl (fun x1 x2 => x1 ++ x2) #[] (List.replicate m its.toArray) = (List.replicate m its).flatten.toArray := fun m => by
      have := foldl_rep its m []
      rw [List.nil_append] at this
      exact this
    rw [f0]
    cases its with
    | nil => simp
    | cons a r' => rw [if_neg (by simp)]
  refine wpAny_binaryOp_repeat_ref (T := "list") (U := "int") (by decide) ⟨_, e, rfl⟩ (fun s' => typeIs_int s' k t) noFill_list_mul F.fills_int_mul F.slot_int_rmul repeat_list F.slot_int_index.lookup
    (call_meets F.slot_int_rmul (typeIs_int s k t) F.entry_int_rmul (F.args_int_rmul_2 _ _) (int___rmul___int_list k t l its.toArray n)
      ⟨e, rfl, ⟨_, e, rfl⟩, call_meets F.slot_list_mul ⟨_, e, rfl⟩ F.entry_list_mul (F.args_list_mul_2 _ _) (AutoListH.list___mul___list_int_3 l its.toArray n k t hfit hcap hlong) ⟨e, ?_⟩⟩)
  rw [hnew]
  exact ⟨.ref _, _, I.lnew (t' := s.toks) (r.rep k.toNat) (by rw [PyProof.Rows.lm_len_rep_flat, Nat.mul_comm]; exact hz), rfl, q _ I.fresh⟩
theorem flat_one : ∀ (n : Nat) (x : α), (List.replicate n [x]).flatten = List.replicate n x
  | 0, _ => rfl
  | n + 1, x => by rw [List.replicate_succ, List.flatten_cons, flat_one n x, List.replicate_succ]; rfl
theorem repL_rep {K : PySem.W.Frag} {F : Hp} {d : D} {v : V} (h : Rep K F d v) : ∀ n, RepL K F (List.replicate n d) (List.replicate n v)
  | 0 => rfl
  | n + 1 => ⟨v, List.replicate n v, rfl, h, repL_rep h n⟩
theorem t_rep {f : α → D} (x : α) {k : Int} (hk : -(2 ^ 62) ≤ k ∧ k ≤ (LIM : Nat)) {Q : Res → Prop} (q : Q (.fr (.lst ((List.replicate k.toNat x).map f)))) : OpW X (binaryOp .Mult) (.lst [f x]) (.int k) Q :=
  fun F0 T F G H r σ va vb S h1 h2 => by
    obtain ⟨p1, vs, rfl, k1, k2⟩ := h1.lst S.bas.fh
    obtain ⟨v, vs', e1, k3, k4⟩ := k2
    subst e1
    cases (show vs' = [] from k4)
    have e2 : vb = .int k := by
      rcases h2 with h | ⟨_, _, h⟩
      · exact h
      · exact h.elim
    subst e2
    refine ⟨_, op_repR, p1, k, [v], rfl, rfl, k1, by omega, by have := hk.2; unfold LIM at this; omega, ?_, fun p hp => ?_⟩
    · rw [List.length_singleton, Nat.one_mul]; exact lim_ok (by have := hk.2; omega)
    · rw [flat_one]
      obtain ⟨f1, f2, f3⟩ := S.bas.freshF hp
      exact ⟨.fr (.lst ((List.replicate k.toNat x).map f)), F, Ex.refl _, S.newH hp, ⟨p, rfl, ⟨_, upd_same, by rw [List.map_replicate]; exact repL_rep k3 _⟩, f1, f2, f3, S.freshR hp⟩, q⟩
end
open Out (Rt)
abbrev Tin (G : GD) (H : Hp) (x dx : Addr) : Hp := fun a => if a = x ∨ a = dx then none else Tof G H a
theorem Bas.tin {K : PySem.W.Frag} {F F' H H' : Hp} {G G' : GD} {x dx : Addr} (B : Bas K F (Tof G H) F' G' H') : Bas K F (Tin G H x dx) F' G' H' := by
  refine ⟨B.ff, fun a o h => ?_, B.fh, B.gh, B.fg, fun a o h => ?_, fun a o h => ?_⟩
  · rcases B.ft a o h with z | z
    · exact .inl z
    · right; show (if _ then _ else _) = _; split
      · rfl
      · exact z
  · show (if _ then _ else _) = _
    split
    · rfl
    · exact B.gt a o h
  · have h' : (if a = x ∨ a = dx then none else Tof G H a) = some o := h
    split at h'
    · cases h'
    · exact B.tk a o h'
theorem init_frame {K : PySem.W.Frag} {F H F' H' H2 : Hp} {G G' : GD} {x dx C : Addr} {vs : List (Option V)} (B : Bas K F (Tof G H) F' G' H') (fx : F x = none) (fd : F dx = none) (gx : G x = none) (gd : G dx = none) (hx : H x = some (.ins C dx [])) (hd : H dx = some (.own x)) (hne : dx ≠ x) (e2 : H2 = SlX.slH H' x C dx vs) :
    ∃ F2, Ex F' F2 ∧ Bas K F (Tin G H x dx) F2 G' H2 ∧ SlX.Slt F2 x C dx vs := by
  have tx : Tof G H x = some (.ins C dx []) := by rw [Tof_none gx]; exact hx
  have td : Tof G H dx = some (.own x) := by rw [Tof_none gd]; exact hd
  have fx' : F' x = none := by
    cases e : F' x with
    | none => rfl
    | some u =>
      rcases B.ft x u e with z | z
      · rw [fx] at z; cases z
      · rw [tx] at z; cases z
  have fd' : F' dx = none := by
    cases e : F' dx with
    | none => rfl
    | some u =>
      rcases B.ft dx u e with z | z
      · rw [fd] at z; cases z
      · rw [td] at z; cases z
  have gx' : G' x = none := by
    cases e : G' x with
    | none => rfl
    | some u => have := B.gt x u e; rw [tx] at this; cases this
  have gd' : G' dx = none := by
    cases e : G' dx with
    | none => rfl
    | some u => have := B.gt dx u e; rw [td] at this; cases this
  have h2 : ∀ a, a ≠ x → a ≠ dx → H2 a = H' a := fun a h1 h2 => by rw [e2]; exact SlX.slH_ne h1 h2
  have ef : Ex F' (SlX.slH F' x C dx vs) := fun a o h => by rw [SlX.slH_ne (ne_of_none h fx') (ne_of_none h fd')]; exact h
  have ng : ∀ {a : Addr} {o : D}, G' a = some o → a ≠ x ∧ a ≠ dx := fun {a o} h => ⟨fun z => (by rw [z, gx'] at h; cases h), fun z => (by rw [z, gd'] at h; cases h)⟩
  refine ⟨SlX.slH F' x C dx vs, ef, ⟨fun a o h => ef a o (B.ff a o h), fun a o h => ?_, fun a o h => ?_, fun a o h => ?_, fun a o h => ?_, fun a o h => ?_, fun a o h => ?_⟩, SlX.slH_slt hne⟩
  · by_cases h1 : a = x
    · right; show (if _ then _ else _) = _; rw [if_pos (.inl h1)]
    · by_cases h2 : a = dx
      · right; show (if _ then _ else _) = _; rw [if_pos (.inr h2)]
      · rw [SlX.slH_ne h1 h2] at h
        rcases B.ft a o h with z | z
        · exact .inl z
        · right; show (if _ then _ else _) = _; rw [if_neg (by simp [h1, h2])]; exact z
  · by_cases h1 : a = x
    · subst h1; rw [e2]; unfold SlX.slH at h ⊢; rw [upd_same] at h ⊢; exact h
    · by_cases h3 : a = dx
      · subst h3; rw [e2]; unfold SlX.slH at h ⊢; rw [upd_ne h1, upd_same] at h ⊢; exact h
      · rw [SlX.slH_ne h1 h3] at h; rw [h2 a h1 h3]; exact B.fh a o h
  · obtain ⟨n1, n2⟩ := ng h
    exact (B.gh a o h).mono ef fun o q => by rw [h2 a n1 n2]; exact q
  · obtain ⟨n1, n2⟩ := ng h
    rw [SlX.slH_ne n1 n2]; exact B.fg a o h
  · show (if _ then _ else _) = _
    split
    · rfl
    · exact B.gt a o h
  · have h' : (if a = x ∨ a = dx then none else Tof G H a) = some o := h
    by_cases h1 : a = x ∨ a = dx
    · rw [if_pos h1] at h'; cases h'
    · rw [if_neg h1] at h'
      rw [h2 a (fun z => h1 (.inl z)) (fun z => h1 (.inr z))]; exact B.tk a o h'
section
variable {P : Program} {w : World} {K : PySem.W.Frag} {mg : Str → Option Value} {base : Heap}
/-- .. two slots, stored from names at the end: the second slot first -/
theorem init2r_ok {x qual : Str} {st : Stmt} {g : Addr} {fd : FuncData} {N ps : List Str} {k : Nat} {C q0 q1 : Addr} {f0 f1 : Str} {f : FSpI} (Fo : Fun K x qual st g fd) (S : FnScope N ps (defScope st)) (c : SlX.SCls K C) (t0 : SlX.Slot1 K C f0 q0 1) (t1 : SlX.Slot1 K C f1 q1 0)
    (len : ∀ ds G post px, f ds G post px → ds.length + 1 = ps.length)
    (pre : List Stmt) (s0 s1 : Stmt) (i0 i1 : Nat) (hb : defBody st = pre ++ [s0, s1])
    (hbody : ∀ (cdv : Value) (A : Around) (outer : List Env) (s : Shared) (H : Hp) (E : XK) (F T : Hp), Room k (A.deeper (envOfC qual (defScope st) s.heap.objs.size g cdv)) → ∀ (px : Exn → GD → Prop),
      PS (cyOf P w K mg base N qual (defScope st) g cdv A outer s H E F T px).toCx s0 (SlX.sSl K (tVar 0) (tVar i0) f0) ∧ PS (cyOf P w K mg base N qual (defScope st) g cdv A outer s H E F T px).toCx s1 (SlX.sSl K (tVar 0) (tVar i1) f1) ∧
      ∀ (a : Addr) (ds : List D) (G : GD) (post : List D → GD → Prop), f ds G post px → (cyOf P w K mg base N qual (defScope st) g cdv A outer s H E F T px).Tk → PassesOwn (model P w) (cyOf P w K mg base N qual (defScope st) g cdv A outer s H E F T px).A (cyOf P w K mg base N qual (defScope st) g cdv A outer s H E F T px).env (cyOf P w K mg base N qual (defScope st) g cdv A outer s H E F T px).xe →
      WB (cyOf P w K mg base N qual (defScope st) g cdv A outer s H E F T px) pre (startD N (.adr a :: ds)) G { nx := fun r G' => r[0]? = some (Sl.sh (.adr a)) ∧ ∃ d0 d1, r[i0]? = some (Sl.sh d0) ∧ r[i1]? = some (Sl.sh d1) ∧ post [d1, d0] G', rt := fun _ _ => False }) :
    FnOk P w K mg base (L2.CX P w) (k + 1) g fd ps (spI K C f) := by
  refine Fo.okX S (fun vs H Q E h => ?_) (fun cdv A outer s H vs Q E hr h => ?_)
  · obtain ⟨a, dx, us, F, G, ds, post, px, rfl, _, _, _, _, _, _, _, _, _, _, rp, hf, _⟩ := h
    rw [List.length_cons, rp.length]; exact len ds G post px hf
  · obtain ⟨a, dx, us, F, G, ds, post, px, rfl, hx, hd, hne, fx, fdx, gx, gdx, e1, e2, e3, rp, hf, hq, hxn⟩ := h
    refine ⟨RunB _ (defBody st), pbR, ?_⟩
    obtain ⟨p0, p1, hW⟩ := hbody cdv A outer s H E F (Tof G H) hr px
    have hl : (D.adr a :: ds).length ≤ N.length := by
      rw [List.length_cons, len ds G post px hf]
      have := congrArg List.length S.pre
      rw [List.length_take] at this
      omega
    rw [hb]
    have S0 := sta_start (N := N) (ds := .adr a :: ds) (vs := .ref a :: us) hl e1 e2 e3 ⟨_, _, rfl, rfl, rp⟩
    have tk : (cyOf P w K mg base N qual (defScope st) g cdv A outer s H E F (Tof G H) px).Tk := (takes_of (E := E) rfl rfl rfl rfl).imp fun cls d σ H' ⟨r, G', F', x, S', ex, q⟩ => hxn x cls d G' H' F' q S'.bas.tin ex
    have go := hW a ds G post hf tk (passes_of rfl) F (Tof G H) F H (L2.start N (.ref a :: us)) ⟨Ex.refl _, Ex.refl _, fun _ _ z => .inl z⟩ S0
    refine runB_then (X := cyOf P w K mg base N qual (defScope st) g cdv A outer s H E F (Tof G H) px) (go.mono (fun σ' H' ⟨r', G', F', S', h0, d0, d1, h1, h2, hy⟩ => ?_) (fun v H' ⟨x, G', F', B, rt, q⟩ => q.elim) (fun _ _ ⟨_, _, _, _, q⟩ => q) (fun _ _ ⟨_, _, _, _, q⟩ => q))
    obtain ⟨va, a1, a2⟩ := S'.sl 0 _ h0
    obtain ⟨v0, b1, b2⟩ := S'.sl i0 _ h1
    obtain ⟨v1, c1, c2⟩ := S'.sl i1 _ h2
    cases (show va = .ref a from a2)
    have tx : H' a = some (.ins C dx []) := S'.bas.tk a _ (by rw [Tof_none gx]; exact hx)
    have hs0 : SlX.Slt H' a C dx [] := .inl ⟨tx, rfl⟩
    have two : SlX.putS 0 v1 (SlX.putS 1 v0 []) = [some v1, some v0] := rfl
    refine RunB.of (pss_cons p0 (pss_cons p1 pss_nil)) ⟨v0, b1, .ref a, a1, a, C, dx, q0, [], 1, rfl, hs0, c, t0, v1, c1, .ref a, a1, a, C, dx, q1, _, 0, rfl, SlX.slH_slt hne, c, t1, ?_⟩
    rw [SlX.slH_twice hne, two]
    obtain ⟨F2, f1, f2, f3⟩ := init_frame (vs := [some v1, some v0]) S'.bas fx fdx gx gdx hx hd hne rfl
    exact hq _ G' _ F2 hy f2 ⟨a, dx, [v1, v0], rfl, f3, v1, [v0], rfl, Rep.mono f1 _ _ c2, .one (Rep.mono f1 _ _ b2)⟩
end
/-- the promise of a class's making by a mirror -/
def FMI (cx : Nat → Addr) {A R : Type} (en : A → List D) (es : R → List D) (f : A → Out R) : FSpI := fun ds G post px => ∃ a : A, ds = en a ∧ (f a).sat (fun v => post (es v) G) (fun m => px (xnOf cx m) G)
theorem kit_same {K : PySem.W.Frag} {t : Value} (h : (t == t) = true) : PySem.W.kitOne K t t = some true := if_pos h
theorem kit_ref {K : PySem.W.Frag} {t : Value} {C : Addr} {b : Bool} (hne : (t == .ref C) = false) (hc : PySem.W.isClsIn K C = true) (ht : PySem.W.typeIn K (.ref C) = some (.type "type")) (hs : PySem.W.subIn K t (.ref C) = some b) : PySem.W.kitOne K t (.ref C) = some b := by
  unfold PySem.W.kitOne
  rw [if_neg (by rw [hne]; exact Bool.false_ne_true)]
  unfold PySem.W.kitCls
  dsimp only
  rw [if_pos, hs]
  rw [ht]
  unfold PySem.W.isClsIn at hc
  rw [hc]
  rfl
open Out (Rt)
structure Rul where
  error : Int
  marks : List Int
deriving DecidableEq, Inhabited
abbrev eRul (C : Addr) : Rul → D := fun r => .ins C [.int r.error, .tup (r.marks.map D.int)]
structure Cl_Ruler (K : PySem.W.Frag) (C : Addr) : Prop where
  cls : SlX.SCls K C
  isi : SlX.SIsi K C
  s0 : ∃ p, SlX.Slot1 K C "own_error" p 0
  s1 : ∃ p, SlX.Slot1 K C "own_marks" p 1
  same : PySem.W.kitOne K (.ref C) (.ref C) = some true
  nf : PySem.W.notFirst K C (.ref C) = true
open Out (Rt)
namespace RBS
open PySem PyProof.Rows SrtO Srt
def IsPairS (h : Heap) (v : Value) (x : Str) (y : Int) : Prop := ∃ a o t u n, v = .ref a ∧ h.get? a = some o ∧ o.cls = .type "tuple" ∧ o.data = .seq #[.str x t, .int y u] n
theorem IsPairS.keeps {h h' : Heap} {v : Value} {x : Str} {y : Int} (p : IsPairS h v x y) (k : ∀ b o, h.get? b = some o → o.cls = .type "tuple" → h'.get? b = some o) : IsPairS h' v x y := by
  obtain ⟨a, o, t, u, n, e, ho, hc, hd⟩ := p
  exact ⟨a, o, t, u, n, e, k _ _ ho hc, hc, hd⟩
end RBS
open Out (Rt)
/-- the pairs of a mirror, sorted -/
def gP (a : S × Int) : Str × Int := (a.1.1, a.2)
open Out (Rt)
theorem kt_NoneType_str {K : PySem.W.Frag} : PySem.W.kitOne K (.type "NoneType") (.type "str") = some false := kit_ty (by decide +kernel)
theorem kt_NoneType_tuple {K : PySem.W.Frag} : PySem.W.kitOne K (.type "NoneType") (.type "tuple") = some false := kit_ty (by decide +kernel)
theorem kt_NoneType_list {K : PySem.W.Frag} : PySem.W.kitOne K (.type "NoneType") (.type "list") = some false := kit_ty (by decide +kernel)
theorem kt_NoneType_dict {K : PySem.W.Frag} : PySem.W.kitOne K (.type "NoneType") (.type "dict") = some false := kit_ty (by decide +kernel)
theorem kt_bool_bool {K : PySem.W.Frag} : PySem.W.kitOne K (.type "bool") (.type "bool") = some true := kit_ty (by decide +kernel)
theorem kt_bool_int {K : PySem.W.Frag} : PySem.W.kitOne K (.type "bool") (.type "int") = some true := kit_ty (by decide +kernel)
theorem kt_bool_str {K : PySem.W.Frag} : PySem.W.kitOne K (.type "bool") (.type "str") = some false := kit_ty (by decide +kernel)
theorem kt_bool_tuple {K : PySem.W.Frag} : PySem.W.kitOne K (.type "bool") (.type "tuple") = some false := kit_ty (by decide +kernel)
theorem kt_bool_list {K : PySem.W.Frag} : PySem.W.kitOne K (.type "bool") (.type "list") = some false := kit_ty (by decide +kernel)
theorem kt_bool_dict {K : PySem.W.Frag} : PySem.W.kitOne K (.type "bool") (.type "dict") = some false := kit_ty (by decide +kernel)
theorem kt_int_bool {K : PySem.W.Frag} : PySem.W.kitOne K (.type "int") (.type "bool") = some false := kit_ty (by decide +kernel)
theorem kt_int_int {K : PySem.W.Frag} : PySem.W.kitOne K (.type "int") (.type "int") = some true := kit_ty (by decide +kernel)
theorem kt_int_str {K : PySem.W.Frag} : PySem.W.kitOne K (.type "int") (.type "str") = some false := kit_ty (by decide +kernel)
theorem kt_int_tuple {K : PySem.W.Frag} : PySem.W.kitOne K (.type "int") (.type "tuple") = some false := kit_ty (by decide +kernel)
theorem kt_int_list {K : PySem.W.Frag} : PySem.W.kitOne K (.type "int") (.type "list") = some false := kit_ty (by decide +kernel)
theorem kt_int_dict {K : PySem.W.Frag} : PySem.W.kitOne K (.type "int") (.type "dict") = some false := kit_ty (by decide +kernel)
theorem kt_str_str {K : PySem.W.Frag} : PySem.W.kitOne K (.type "str") (.type "str") = some true := kit_ty (by decide +kernel)
theorem kt_str_tuple {K : PySem.W.Frag} : PySem.W.kitOne K (.type "str") (.type "tuple") = some false := kit_ty (by decide +kernel)
theorem kt_str_list {K : PySem.W.Frag} : PySem.W.kitOne K (.type "str") (.type "list") = some false := kit_ty (by decide +kernel)
theorem kt_str_dict {K : PySem.W.Frag} : PySem.W.kitOne K (.type "str") (.type "dict") = some false := kit_ty (by decide +kernel)
theorem kt_tuple_tuple {K : PySem.W.Frag} : PySem.W.kitOne K (.type "tuple") (.type "tuple") = some true := kit_ty (by decide +kernel)
theorem kt_tuple_list {K : PySem.W.Frag} : PySem.W.kitOne K (.type "tuple") (.type "list") = some false := kit_ty (by decide +kernel)
theorem kt_tuple_dict {K : PySem.W.Frag} : PySem.W.kitOne K (.type "tuple") (.type "dict") = some false := kit_ty (by decide +kernel)
theorem kt_list_tuple {K : PySem.W.Frag} : PySem.W.kitOne K (.type "list") (.type "tuple") = some false := kit_ty (by decide +kernel)
theorem kt_list_list {K : PySem.W.Frag} : PySem.W.kitOne K (.type "list") (.type "list") = some true := kit_ty (by decide +kernel)
theorem kt_list_dict {K : PySem.W.Frag} : PySem.W.kitOne K (.type "list") (.type "dict") = some false := kit_ty (by decide +kernel)
open Out (Rt)
section
variable {X : Cy} {e a b c o tg kx vx elt i : Expr} {es ifs : List Expr} {st : Stmt} {sts rest body orelse : List Stmt} {r : Env2} {G : GD} {pos tpos apos cpos p0 : Pos} {D0 : EndsD} {α β γ σT ρ : Type}
theorem we_ifN (en : α → D) {Q : Res → Env2 → GD → Prop}
    (h : WT X c r G fun d r1 G1 => ∃ (β : Type) (ma mb : Out α) (f : α → Out β) (Q0 : β → Prop) (E : Xm → Prop), ((if d = true then ma else mb).bind f).sat Q0 E ∧ (d = true → ∀ Q' : α → Prop, ma.sat Q' E → WE X a r1 G1 fun x r2 G2 => ∃ v, x = .sh (en v) ∧ r2 = r1 ∧ G2 = G1 ∧ Q' v) ∧
      (d = false → ∀ Q' : α → Prop, mb.sat Q' E → WE X b r1 G1 fun x r2 G2 => ∃ v, x = .sh (en v) ∧ r2 = r1 ∧ G2 = G1 ∧ Q' v) ∧ ∀ v, (f v).sat Q0 E → Q (.sh (en v)) r1 G1) : WE X (.IfExp c a b pos) r G Q :=
  we_ifExp (h.mono fun d r1 G1 ⟨β, ma, mb, f, Q0, E, h0, h1, h2, q⟩ => ⟨fun hd => by
    rw [if_pos hd] at h0
    exact (h1 hd _ (Out.sb h0)).mono fun x r2 G2 ⟨v, m1, m2, m3, m4⟩ => by subst m1 m2 m3; exact q v m4, fun hd => by
    rw [if_neg (by rw [hd]; exact Bool.false_ne_true)] at h0
    exact (h2 hd _ (Out.sb h0)).mono fun x r2 G2 ⟨v, m1, m2, m3, m4⟩ => by subst m1 m2 m3; exact q v m4⟩)
end
open Out (Rt)
open Out (Rt)
section
variable {X : Cy} {e a b c o tg kx vx elt i : Expr} {es ifs : List Expr} {st : Stmt} {sts rest body orelse : List Stmt} {r : Env2} {G : GD} {pos tpos apos cpos p0 : Pos} {D0 : EndsD} {α β γ σT ρ : Type}
theorem ResOk.newH {K : PySem.W.Frag} {T F : Hp} {G : GD} {H : Hp} {r : Env2} {σ : L2.St} {x : Res} {v : V} {p : Addr} {o : HO} (h : ResOk K T F G H r σ x v) (hp : H p = none) (hx : ∀ i, x ≠ .pk i) : ResOk K T F G (upd H p o) r σ x v := by
  cases x with
  | sh d => exact h
  | fr d =>
    obtain ⟨q, h1, h2, h3⟩ := h
    exact ⟨q, h1, h2.mono (Ex.refl _) fun o' e => by rw [upd_ne (ne_of_none e hp)]; exact e, h3⟩
  | pk i => exact absurd rfl (hx i)
/-- a, b = e1, e2 with names that are cells: by a tuple -/
theorem ws_parT (i j : Nat) {x y : Str} {px py pt : Pos} {kt k2 : Nat} {pt2 : Pos} (hc : X.calm = true) (nd : X.N.Nodup) (hi : X.N[i]? = some x) (hj : X.N[j]? = some y) (hx : L2.Loc X.env.scope x) (hy : L2.Loc X.env.scope y)
    (h : WE X a r G fun z r1 G1 => ∃ z' r2, nz r1 z = some (z', r2) ∧ WE X b r2 G1 fun w r3 G3 => ∃ w' r4, nz r3 w = some (w', r4) ∧ i < r4.length ∧ j < r4.length ∧ D0.nx ((r4.set i (slO z')).set j (slO w')) G3)
    (hfx : X.fn x = true ∨ X.env.scope.names.lookup x = some .local := by first | exact .inl rfl | exact .inr rfl | assumption) (hfy : X.fn y = true ∨ X.env.scope.names.lookup y = some .local := by first | exact .inl rfl | exact .inr rfl | assumption)
    (hn : (assignEach [.Name x px, .Name y py] X.env).length = 2 := by rfl) (hf : (assignEach [.Name x px, .Name y py] X.env).findIdx? (·.1) = none := by rfl)
    (hs : swapsWithSole [.Tuple [.Name x px, .Name y py] kt pt] (.Tuple [a, b] k2 pt2) pos.line X.env = pure false := by rfl) (hw : swappedStores [.Tuple [.Name x px, .Name y py] kt pt] (.Tuple [a, b] k2 pt2) X.env = pure none := by rfl)
    (h1 : (assignEach [.Tuple [.Name x px, .Name y py] kt pt] X.env).map (·.2) = [assign (.Tuple [.Name x px, .Name y py] kt pt) X.env] := by rfl)
    (s1 : starEach [a, b] X.env = (false, eval a X.env) :: starEach [b] X.env := by rfl) (s2 : starEach [b] X.env = (false, eval b X.env) :: starEach [] X.env := by rfl) :
    WS X (.Assign [.Tuple [.Name x px, .Name y py] kt pt] (.Tuple [a, b] k2 pt2) pos) r G D0 := fun F0 T F H σ lk S =>
  RunS.of (ps_asg (pe_tup (pa_cons peR (pa_cons peR pa_nil s2) s1)) (pg_tup hc (pgs_run (ixs := [i, j]) (.cons (pg_name nd hi hx hfx) (.cons (pg_name nd hj hy hfy) .nil)) (fun t ht ts => by
    rcases List.mem_cons.mp ht with z | z
    · subst z; rfl
    · rcases List.mem_cons.mp z with z | z
      · subst z; rfl
      · simp at z)) hn hf) hs hw h1) ((h F0 T F H σ lk S).mono fun v H1 ⟨z, r1, G1, F1, e1, S1, k1, z', r2, q1, q2⟩ => by
    obtain ⟨F2, e2, S2, k2, hz⟩ := S1.nz k1 q1
    obtain ⟨T', tx, S2', hold⟩ := holdT S2 k2 hz
    refine (q2 F0 T' F2 H1 σ (lk.ext tx) S2').mono fun w H3 ⟨u, r3, G3, F3, e3, S3, k3, w', r4, q3, hi', hj', q4⟩ => ?_
    obtain ⟨F4, e4, S4, k4, hz4⟩ := S3.nz k3 q3
    obtain ⟨S5, m1, m2⟩ := hold F4 G3 H3 r4 σ (e3.trans e4) S4
    obtain ⟨m3, m4⟩ := m2 w' w k4
    refine ⟨(by show 2 ≤ sizeLine; decide), fun p hp => ⟨p, [v, w], rfl, .inl (.inl upd_same), rfl, rfl, ?_⟩⟩
    exact ⟨_, G3, F4, ((S5.newH hp).setR (m1.newH hp hz) hi' hz).setR ((m3.newH hp hz4).setR hi' S5.len hz hz4 m4) (by rw [List.length_set]; exact hj') hz4, q4⟩)
end
open Out (Rt)
section
variable {X : Cy} {e a b c o tg kx vx elt i : Expr} {es ifs : List Expr} {st : Stmt} {sts rest body orelse : List Stmt} {r : Env2} {G : GD} {pos tpos apos cpos p0 : Pos} {D0 : EndsD} {α β γ σT ρ : Type}
theorem ints_rep {K : PySem.W.Frag} {F : Hp} : ∀ (ns : List Int), RepL K F (ns.map D.int) (ns.map V.int)
  | [] => rfl
  | n :: ns => ⟨_, _, rfl, rfl, ints_rep ns⟩
theorem Vw.scr {K : PySem.W.Frag} {F H : Hp} (ex : Ex F H) {ns : List Int} {v : V} (h : Vw K F H (.scr ns) v) : ∃ a, v = .ref a ∧ SqL K H a (ns.map V.int) := by
  rcases h with ⟨a, h1, h2⟩ | ⟨_, _, h⟩
  · exact ⟨a, h1, ex.sqL h2⟩
  · exact h.elim
theorem c_listR {ns : List Int} {Q : Res → Prop} (q : Q (.fr (.lst (ns.map D.int)))) : CallW1 X (.type "list") (.scr ns) Q := fun F0 T F G H r σ v S hv => by
  obtain ⟨p, rfl, k1⟩ := hv.scr S.bas.fh
  exact ⟨_, call_list_of, p, _, rfl, .inl k1, fun l hl => new_lst S (ints_rep ns) hl q⟩
theorem wi_scr {Q : List D → Env2 → GD → Prop} (h : WE X e r G fun x r1 G1 => ∃ ns r2, fz r1 x = some (.scr ns, r2) ∧ Q (ns.map D.int) r2 G1) : WI X tg e r G Q := fun F0 T F H σ lk S =>
  RunI.of (pi_list peR) ((h F0 T F H σ lk S).mono fun v H1 ⟨x, r1, G1, F1, e1, S1, k1, ns, r2, q1, q2⟩ => by
    obtain ⟨Fa, e2, Sa, rp⟩ := S1.fz k1 q1
    obtain ⟨a, rfl, z1⟩ := rp
    refine ⟨a, rfl, ⟨_, Sa.bas.fh.sqL z1⟩, ns.map D.int, r2, G1, Fa, e1.trans e2, Sa, fun F H ea eh => ⟨⟨_, eh.sqL (ea.sqL z1), by rw [List.length_map, List.length_map]; exact Nat.le_refl _⟩, fun i d hi => ?_⟩, q2⟩
    rw [List.getElem?_map] at hi
    cases hn : ns[i]? with
    | none => rw [hn] at hi; cases hi
    | some n =>
      rw [hn] at hi; cases hi
      exact ⟨⟨_, .int n, eh.sqL (ea.sqL z1), by rw [List.getElem?_map, hn]; rfl⟩, fun x H' ⟨y1, y2⟩ => .inl ⟨y1, by
        have := y2 _ (eh.sqL (ea.sqL z1))
        rw [List.getElem?_map, hn] at this; cases this; rfl⟩⟩)
end
instance instRgOk (a b : Int) : Decidable (RgOk a b) := by unfold RgOk; infer_instance
open Out (Rt)
def alB : Nat → D → Bool
  | _, .non => true
  | _, .bl _ => true
  | _, .int _ => true
  | _, .str _ => true
  | n + 1, .tup ds => decide (ds.length ≤ LIM) && ds.all (alB n)
  | n + 1, .lst ds => decide (ds.length ≤ LIM) && ds.all (alB n)
  | _, _ => false
def alikeF (n : Nat) : FSp := fun ds G post _ => ∃ d, ds = [d, d] ∧ alB n d = true ∧ post (.sh (.bl true)) G
open Out (Rt)
structure FlC {α : Type} (en : α → D) (vf : α → V) : Prop where
  rep : ∀ (K : PySem.W.Frag) (F : Hp) (a : α) (v : V), Rep K F (en a) v → v = vf a
  nown : ∀ (K : PySem.W.Frag) (F H : Hp) (p : Addr) (a : α), ¬ Own K F H p (en a)
  flat : ∀ a, flatV (vf a) = true
  eq : ∀ a b, eqV (vf a) (vf b) = true ↔ a = b
section
variable {X : Cy} {α : Type} [DecidableEq α] {en : α → D} {vf : α → V}
theorem FlC.all (h : FlC en vf) {K : PySem.W.Frag} {F : Hp} : ∀ {xs : List α} {vs : List V}, RepL K F (xs.map en) vs → vs = xs.map vf
  | [], _, e => e
  | x :: xs, _, ⟨v, r, e1, e2, e3⟩ => by subst e1; rw [h.rep K F x v e2, h.all e3]; rfl
end
open Out (Rt)
section
variable {X : Cy} {e a b c o tg kx vx elt i : Expr} {es ifs : List Expr} {st : Stmt} {sts rest body orelse : List Stmt} {r : Env2} {G : GD} {pos tpos apos cpos p0 : Pos} {D0 : EndsD} {α β γ σT ρ : Type}
theorem opw_fdivE {Q : Res → Prop} {i j : Int} (hc : 0 < j ∧ j < 2 ^ 200) (q : Q (.sh (.int (i / j)))) : OpW X (binaryOp .FloorDiv) (.int i) (.int j) Q :=
  opw_flat (d := .int (i / j)) (v := .int (i / j)) (fun _ _ => rfl) (fun F H va vb _ h1 h2 => ⟨_, op_fdivW, fun P p => ⟨i, j, h1.int, h2.int, wide_div (b := 200) hc.1 (by have := hc.2; have := hc.1; omega) (by decide) (by decide), p⟩⟩) q
/-- results that are held together -/
def NzL (K : PySem.W.Frag) (T F : Hp) (G : GD) (H : Hp) (r : Env2) (σ : L2.St) : List Res → List V → Prop
  | [], vs => vs = []
  | z :: zs, vs => ∃ v us, vs = v :: us ∧ ResOk K T F G H r σ z v ∧ (∀ i, z ≠ .pk i) ∧ (∀ z2 v2, (z2, v2) ∈ zs.zip us → ∀ d d2, z = .fr d → z2 = .fr d2 → v ≠ v2) ∧ NzL K T F G H r σ zs us
theorem NzL.len {K : PySem.W.Frag} {T F : Hp} {G : GD} {H : Hp} {r : Env2} {σ : L2.St} : ∀ {zs : List Res} {vs : List V}, NzL K T F G H r σ zs vs → vs.length = zs.length
  | [], _, h => by rw [show _ = [] from h]; rfl
  | _ :: _, _, ⟨v, us, e, _, _, _, h⟩ => by rw [e, List.length_cons, List.length_cons, h.len]
theorem NzL.map {K : PySem.W.Frag} {T T' F : Hp} {G : GD} {H : Hp} {r : Env2} {σ : L2.St} (f : ∀ z v, ResOk K T F G H r σ z v → ResOk K T' F G H r σ z v) : ∀ {zs : List Res} {vs : List V}, NzL K T F G H r σ zs vs → NzL K T' F G H r σ zs vs
  | [], _, h => h
  | _ :: _, _, ⟨v, us, e, h1, h2, h3, h⟩ => ⟨v, us, e, f _ _ h1, h2, h3, h.map f⟩
theorem NzL.newH {K : PySem.W.Frag} {T F : Hp} {G : GD} {H : Hp} {r : Env2} {σ : L2.St} {p : Addr} {o : HO} (hp : H p = none) : ∀ {zs : List Res} {vs : List V}, NzL K T F G H r σ zs vs → NzL K T F G (upd H p o) r σ zs vs
  | [], _, h => h
  | _ :: _, _, ⟨v, us, e, h1, h2, h3, h⟩ => ⟨v, us, e, h1.newH hp h2, h2, h3, h.newH hp⟩
theorem NzL.setR {K : PySem.W.Frag} {T F : Hp} {G : GD} {H : Hp} {r : Env2} {σ : L2.St} {z : Res} {v : V} {i : Nat} (hi : i < r.length) (hl : r.length = σ.length) (hz : ∀ i, z ≠ .pk i) : ∀ {zs : List Res} {vs : List V}, (∀ z2 v2, (z2, v2) ∈ zs.zip vs → ∀ d d2, z = .fr d → z2 = .fr d2 → v ≠ v2) → NzL K T F G H r σ zs vs → NzL K T F G H (r.set i (slO z)) (σ.set i (some v)) zs vs
  | [], _, _, h => h
  | z2 :: zs, _, hd, ⟨v2, us, e, h1, h2, h3, h⟩ => by
    subst e
    exact ⟨v2, us, rfl, h1.setR hi hl hz h2 (hd z2 v2 (by simp)), h2, h3, h.setR hi hl hz fun z3 v3 hm => hd z3 v3 (by rw [List.zip_cons_cons]; exact List.mem_cons_of_mem _ hm)⟩
def RunGs (X : Cx) (ts : List Expr) : TGs := fun vs σ H Q => ∀ (pins : List (Addr × Obj)) (s : Shared) (us : List Value), Inv X pins σ H s → Vals vs us → wpAny (model X.prog X.w) X.A (assignInOrder ((assignEach ts X.env).map (·.2)) us) (fun _ s' => ∃ σ' H', Inv X pins σ' H' s' ∧ Q σ' H') X.xe s
theorem RunG.mono {X : Cx} {tg : Expr} {v : V} {σ : L2.St} {H : Hp} {Q Q' : L2.St → Hp → Prop} (h : RunG X tg v σ H Q) (k : ∀ σ' H', Q σ' H' → Q' σ' H') : RunG X tg v σ H Q' := fun pins s u I rv => wpAny_mono (h pins s u I rv) (fun _ _ ⟨σ', H', I', q⟩ => ⟨σ', H', I', k σ' H' q⟩) fun _ _ x => x
theorem RunGs.mono {X : Cx} {ts : List Expr} {vs : List V} {σ : L2.St} {H : Hp} {Q Q' : L2.St → Hp → Prop} (h : RunGs X ts vs σ H Q) (k : ∀ σ' H', Q σ' H' → Q' σ' H') : RunGs X ts vs σ H Q' := fun pins s us I rv => wpAny_mono (h pins s us I rv) (fun _ _ ⟨σ', H', I', q⟩ => ⟨σ', H', I', k σ' H' q⟩) fun _ _ x => x
/-- target = frozen data -/
theorem ws_asgG (is : List Nat) (h : WE X e r G fun x r1 G1 => ∃ d r2, fz r1 x = some (d, r2) ∧ WG X tg d r2 G1 is fun r3 G3 => D0.nx r3 G3)
    (hs : swapsWithSole [tg] e pos.line X.env = pure false := by rfl) (hw : swappedStores [tg] e X.env = pure none := by rfl)
    (h1 : (assignEach [tg] X.env).map (·.2) = [assign tg X.env] := by rfl) : WS X (.Assign [tg] e pos) r G D0 := fun F0 T F H σ lk S =>
  RunS.of (ps_asg peR pgR hs hw h1) ((h F0 T F H σ lk S).mono fun v H1 ⟨x, r1, G1, F1, e1, S1, k1, d, r2, q1, q2⟩ => by
    obtain ⟨F2, e2, S2, rp⟩ := S1.fz k1 q1
    exact (q2 F0 T F2 H1 σ v lk S2 rp).mono fun σ' H' ⟨_, r', G', F', e', S', q'⟩ => ⟨r', G', F', S', q'⟩)
end
open Out (Rt)
section
variable {X : Cy} {e a b c o tg kx vx elt i : Expr} {es ifs : List Expr} {st : Stmt} {sts rest body orelse : List Stmt} {r : Env2} {G : GD} {pos tpos apos cpos p0 : Pos} {D0 : EndsD} {α β γ σT ρ : Type}
theorem we_frzS (i : Nat) {d : D} {Q : Res → Env2 → GD → Prop} (hi : r[i]? = some (.own d)) (hD : isDic d = false) (h : WE X e (r.set i (.sh d)) G Q) : WE X e r G Q := fun F0 T F H σ lk S => by
  obtain ⟨F', k1, k2, _⟩ := S.frzSlot hD hi
  exact (h F0 T F' H σ lk k2).mono fun v H1 ⟨x, r1, G1, F1, e1, S1, q⟩ => ⟨x, r1, G1, F1, k1.trans e1, S1, q⟩
instance instRgC (i j c : Int) (n : Nat) : Decidable (RgC i j c n) := by unfold RgC; infer_instance
end
open Out (Rt)
open Out (Rt)
open Out (Rt)
open Out (Rt)
abbrev Bh := { x : List Int × Int × Int // x.1.length ≤ 63 }
def bxH (G0 : GD) (b g : Addr) (x : Bh) : GD := updG (updG G0 g (.lst (x.1.1.map D.int))) b (.lst [.int x.1.2.1, .adr g, .int x.1.2.2])
def FBh {A R : Type} (en : A → List D) (er : R → Res) (f : A → Bh → Out (R × Bh)) : FSp := fun ds G post _ => ∃ (a : A) (G0 : GD) (b g : Addr) (x : Bh), g ≠ b ∧ ds = .adr b :: en a ∧ G = bxH G0 b g x ∧ (f a x).sat (fun v => post (er v.1) (bxH G0 b g v.2)) (fun _ => False)
theorem bxH_b {G0 : GD} {b g : Addr} {x : Bh} : bxH G0 b g x b = some (.lst [.int x.1.2.1, .adr g, .int x.1.2.2]) := updG_same
theorem bxH_g {G0 : GD} {b g : Addr} {x : Bh} (h : g ≠ b) : bxH G0 b g x g = some (.lst (x.1.1.map D.int)) := by unfold bxH; rw [updG_ne h, updG_same]
theorem bxH_setB {G0 : GD} {b g : Addr} {x : Bh} {st ix : Int} : updG (bxH G0 b g x) b (.lst [.int st, .adr g, .int ix]) = bxH G0 b g ⟨(x.1.1, st, ix), x.2⟩ := by
  unfold bxH
  funext a
  by_cases h : a = b
  · subst h; rw [updG_same, updG_same]
  · rw [updG_ne h, updG_ne h, updG_ne h]
theorem bxH_setG {G0 : GD} {b g : Addr} {x : Bh} {ns : List Int} (hl : ns.length ≤ 63) (h : g ≠ b) : updG (bxH G0 b g x) g (.lst (ns.map D.int)) = bxH G0 b g ⟨(ns, x.1.2), hl⟩ := by
  unfold bxH
  funext a
  by_cases h1 : a = g
  · subst h1; rw [updG_same, updG_ne h, updG_same]
  · rw [updG_ne h1]
    by_cases h2 : a = b
    · subst h2; rw [updG_same, updG_same]
    · rw [updG_ne h2, updG_ne h1, updG_ne h2, updG_ne h1]
/-- the def that makes it -/
def FMix (m : (ns : List Int) → ns.length ≤ 63 → Int → Bh) : FSp := fun ds G post _ => ∃ (ns : List Int) (seed : Int) (h : ns.length ≤ 63), ds = [.scr ns, .int seed] ∧ ∀ b g, g ≠ b → G b = none → G g = none → post (.sh (.adr b)) (bxH G b g (m ns h seed))
open Out (Rt)
section
variable {X : Cy} {e a b c o tg kx vx elt : Expr} {es ifs : List Expr} {st : Stmt} {sts rest body orelse : List Stmt} {r : Env2} {G : GD} {pos tpos apos cpos p0 : Pos} {D0 : EndsD} {α β γ σT ρ : Type}
/-- isinstance(x, (S, T)) of two built-in classes -/
theorem we_isiT {x y z : Str} {n m : String} {py pz pt : Pos} {kx} {Q : Res → Env2 → GD → Prop} (hg : Gl X x) (hm : X.mg x = none) (hv : bootBuiltins x = some (.builtin "isinstance")) (hg2 : Gl X y) (hm2 : X.mg y = none) (hv2 : bootBuiltins y = some (.type n)) (hg3 : Gl X z) (hm3 : X.mg z = none) (hv3 : bootBuiltins z = some (.type m))
    (h : WE X a r G fun q r1 G1 => ∃ d t c, q = .sh d ∧ tyD d = some t ∧ PySem.W.kitAny X.K t [.type n, .type m] = some c ∧ Q (.sh (.bl c)) r1 G1)
    (hn : x ≠ "__name__" := by decide) (hdb : (x == ("__debug__" : Str)) = false := by decide) (hn2 : y ≠ "__name__" := by decide) (hdb2 : (y == ("__debug__" : Str)) = false := by decide) (hn3 : z ≠ "__name__" := by decide) (hdb3 : (z == ("__debug__" : Str)) = false := by decide)
    (he : starEach [a, .Tuple [.Name y py, .Name z pz] kx pt] X.env = (false, eval a X.env) :: starEach [.Tuple [.Name y py, .Name z pz] kx pt] X.env := by rfl) (he2 : starEach [.Tuple [.Name y py, .Name z pz] kx pt] X.env = (false, eval (.Tuple [.Name y py, .Name z pz] kx pt) X.env) :: starEach [] X.env := by rfl)
    (he3 : starEach [.Name y py, .Name z pz] X.env = (false, eval (.Name y py) X.env) :: starEach [.Name z pz] X.env := by rfl) (he4 : starEach [.Name z pz] X.env = (false, eval (.Name z pz) X.env) :: starEach [] X.env := by rfl)
    (hpl : (backTo pos (starEach [.Tuple [.Name y py, .Name z pz] kx pt] X.env)).any (·.1) = false := by rfl) :
    WE X (.Call (.Name x p0) [a, .Tuple [.Name y py, .Name z pz] kx pt] [] pos) r G Q := fun F0 T F H σ lk S =>
  Run.of (pe_callB call_isiT hg hm hv (pa_cons peR (pa_cons (pe_tup (pa_cons (pe_bltn (v := .ty n) hg2 hm2 hv2 rfl hn2 hdb2) (pa_cons (pe_bltn (v := .ty m) hg3 hm3 hv3 rfl hn3 hdb3) pa_nil he4) he3)) pa_nil he2) he) hn hdb he hpl) ((h F0 T F H σ lk S).mono fun v H1 ⟨q, r1, G1, F1, e1, S1, k1, d, t, c, q1, q2, q3, q4⟩ => by
    subst q1
    refine ⟨by rw [sizeLine_eq]; show 2 ≤ 16777216; decide, fun p hp => ?_⟩
    have ef : Ex F1 (upd F1 p (.tup [.ty n, .ty m])) := Ex.new (S1.bas.freshF hp).1
    have S2 := S1.newF (o := .tup [.ty n, .ty m]) hp
    exact ⟨v, p, [.ty n, .ty m], t, [.type n, .type m], c, rfl, upd_same, .cons (.ty n) (.cons (.ty m) .nil), tyX_of S2.bas.fh (S2.viewR (x := .sh d) (Rep.mono ef _ _ k1) (.inl rfl)) q2, q3, .sh (.bl c), r1, G1, _, e1.trans ef, S2, rfl, q4⟩)
end
/-- the box, made of any script -/
def mixT (m : (ns : List Int) → ns.length ≤ 63 → Int → Bh) (ns : List Int) (seed : Int) : Bh := if h : ns.length ≤ 63 then m ns h seed else ⟨([], 0, 0), by simp⟩
theorem mixT_pos {m : (ns : List Int) → ns.length ≤ 63 → Int → Bh} {ns : List Int} {seed : Int} (h : ns.length ≤ 63) : mixT m ns seed = m ns h seed := by unfold mixT; rw [dif_pos h]
open Out (Rt)
section
variable {P : Program} {w : World} {A : Around} {E : Value → Shared → Prop} {s : Shared}
/-- the object of set() -/
abbrev newS (w : World) : Obj := { cls := .type "set", dict := none, data := .set #[] 0 (.fresh 0 0 (!w.params.followText "set-order")) }
/-- what set(xs) leaves -/
def SetMade (w : World) (s : Shared) (ns : List Int) (s2 : Shared) : Prop := ∃ (h' : Heap) (tk c : Nat), s2 = { s with heap := h', toks := tk } ∧ SetR w h' s.heap.objs.size (fun j => decide (j ∈ ns)) c ∧ c ≤ ns.length ∧ ∀ b o, s.heap.get? b = some o → h'.get? b = some o
theorem set_of_list {l : Addr} {items : Array Value} (ns : List Int) {Q : Value → Shared → Prop} (hh : A.handled = none) (hl : s.heap.IsList l items) (hit : IntsAre items.toList ns) (hb : ns.length + 1 < scanBound)
    (h : ∀ s2, SetMade w s ns s2 → Q (.ref s.heap.objs.size) s2) : wpAny (model P w) A (call (.type "set") [.ref l]) Q E s := by
  have hisz : items.size = ns.length := (Array.length_toList).symm.trans (IntsAre.length hit)
  have hval : ∀ (i : Nat) (v : Value), items[i]? = some v → ∃ k t, ns[i]? = some k ∧ v = .int k t := fun i v hv => by
    obtain ⟨t, e⟩ := PyProof.Rows.IntsAre.int_at hit i v (by rw [Array.getElem?_toList]; exact hv)
    have hi : i < ns.length := hisz ▸ (Array.getElem?_eq_some_iff.mp hv).1
    rw [List.getD_eq_getElem?_getD, List.getElem?_eq_getElem hi] at e
    exact ⟨ns[i], t, List.getElem?_eq_getElem hi, e⟩
  obtain ⟨_, _, hmro⟩ := F.called_set.mro
  have hmade := F.called_set.made
  have hsub := F.called_set.sub
  have hno := F.called_set.notType
  have hcan := F.called_set.canCreate
  have hct := F.typeCall_set_1 (.ref l)
  refine wpAny_call (codeAny_of_tree ?_)
  show wpAny _ _ (callAny (.type "set") _) _ _ _
  refine wpAny_pure ⟨Code.quiet_builtin _ (by decide +kernel), codeAny_builtin F.entry_type_call ?_⟩
  rw [Around.under_plain (weight_type_call_type "set" [.ref l] []) rfl]
  repeat (any_goals (first | assumption | wp_step))
  refine codeAny_mono (code_set_led1 (.ref l) (E := E) (Q₁ := fun x s1 => x = .ref s.heap.objs.size ∧ s1 = { s with heap := s.heap.push (newS w) }) ⟨rfl, rfl⟩) fun r s1 hr => ?_
  match r, hr with
  | .error e, hr => exact hr
  | .ok (.ret x), ⟨hx, hs1⟩ =>
    subst hx hs1
    have hS : (s.heap.push (newS w)).get? s.heap.objs.size = some (newS w) := Heap.get?_push_size _ rfl
    have hT : Shared.TypeIs { s with heap := s.heap.push (newS w) } (.ref s.heap.objs.size) "set" := ⟨_, hS, rfl⟩
    have hli := F.called_set.init.lookup
    have hbi := F.called_set.init.bind (.ref s.heap.objs.size)
    repeat (any_goals (first | assumption | wp_step))
    refine codeAny_mono (codeAny_call_builtin (R := wants (fun x s2 => x = .none ∧ SetMade w s ns s2) E) F.called_set.init.plain F.entry_set_init (check_set_init_1 hT ?_)) fun r2 s2 hr2 => ?_
    · obtain ⟨⟨oc, od, odt, osl⟩, hol, hcl, nl, hdl⟩ := hl
      dsimp only at hcl hdl
      subst hcl hdl
      have hol' : (s.heap.push (newS w)).get? l = some { cls := .type "list", dict := od, data := .seq items nl, slots := osl } := Heap.get?_push_of_some _ hol
      have hl1 : (s.heap.push (newS w)).IsList l items := ⟨_, hol', rfl, nl, rfl⟩
      have hlS : l < s.heap.objs.size := Heap.lt_size hol
      have hz : (s.heap.push (newS w)).objs.size = s.heap.objs.size + 1 := Heap.size_push ..
      have hsls := F.sub_list_set
      have hslf := F.sub_list_frozenset
      have hne : (Value.type "list" == Value.type "dict") = false := by decide
      unfold Builtin.«set.__init__» noKeywords Builtin.Frozenset.updateFrom
      generalize hPI : pyIter = PI
      wp_walk
      subst hPI
      refine wpAny_pyIter_list hl1 (wpAny_bind (wpAny_runValue ?_))
      refine set_update_ints ((Walks.list (show A.in1.in1.in1.handled = none by simp [hh]) _ l (by rw [hz]; exact Nat.ne_of_lt (Nat.lt_succ_of_lt hlS)) items).toS) s.heap.objs.size (by rw [hz]; simp only [List.mem_cons, List.not_mem_nil, or_false, not_or]; exact ⟨Nat.ne_of_lt (Nat.lt_succ_self _), Nat.ne_of_gt hlS⟩) ns hisz hb hval (items.size - 0) 0 _ (by omega) (Nat.zero_le _)
        ⟨⟨_, Heap.get?_push_size _ rfl, rfl, rfl⟩, (hl1.push _)⟩ ⟨0, Nat.le_refl 0, setR_new_at (Heap.get?_push_of_some _ hS)⟩ fun s' c' hm hc' hS' => ?_
      obtain ⟨h', g', d', tk', os'⟩ := s'
      cases (show g' = s.gens from hm.gens)
      cases (show d' = s.drawn from hm.drawn)
      cases (show os' = s.os from hm.os)
      show wpAny _ _ _ _ _ _
      refine wpAny_pure ?_
      show wpAny _ _ (ret Value.none) _ _ _
      refine wpAny_pure ⟨rfl, h', tk', c', rfl, hS', hisz ▸ hc', fun b o e => ?_⟩
      have hb0 : b < s.heap.objs.size := Heap.lt_size e
      exact hm.heap b o (by rw [hz]; simp only [List.mem_cons, List.not_mem_nil, or_false, not_or]; exact ⟨Nat.ne_of_lt hb0, Nat.ne_of_lt (Nat.lt_succ_of_lt hb0)⟩) (Heap.get?_push_of_some _ (Heap.get?_push_of_some _ e))
    · match r2, hr2 with
      | .error e, hr2 => exact hr2
      | .ok (.ret _), ⟨hx, hm⟩ =>
        subst hx
        repeat (any_goals (first | assumption | wp_step))
        exact h _ hm
/-- sorted(found), of any number of members -/
theorem sorted_setB {a : Addr} {S : Int → Bool} {n : Nat} {Q : Value → Shared → Prop} (R : SetR w s.heap a S n) (hh : A.handled = none)
    (hQ : ∀ s' p (out : Array Value) (c : Nat) (ns : List Int), (∀ b o, s.heap.get? b = some o → s'.heap.get? b = some o) → s'.gens = s.gens → s'.os = s.os → s.heap.objs.size ≤ p →
      s'.heap.get? p = some (seqObj "list" out c) → IntsAre out.toList ns → ns.Pairwise (· < ·) → (∀ k, k ∈ ns ↔ S k = true) → ns.length = n → Q (.ref p) s') :
    wpAny (model P w) A (call (.builtin "sorted") [.ref a]) Q E s := by
  obtain ⟨o, es, ep, t, ho, hex, hd, g, nd, hm, hb, hf, hn, hr, hl⟩ := R
  have hsz : es.size ≤ sizeLine := by rw [sizeLine_eq]; unfold scanBound at hb; omega
  refine Calls.call_function_entry kind_sorted plain_sorted entry_sorted (args_sorted1 _) ?_
  unfold Builtin.«sorted»
  refine wpAny_bind (m := checkCount "sorted" 1 1 _) (wpAny_pure (wpAny_bind (collect_set (A := A.in1) hh ⟨o, ho, hex.1, hd⟩ hf hb hr hl fun s1 vs k1 hz g1 o1 pm => ?_)))
  have hvl : vs.length = es.size := by rw [pm.length_eq, List.length_map, Array.length_toList]
  have hI : IntsAre vs (vs.map Builtin.Re.reRawOf) := ints_of vs fun v hv => by
    obtain ⟨e, he, q⟩ := List.mem_map.mp (pm.mem_iff.mp hv)
    obtain ⟨k, tk, h1, _⟩ := g e he
    exact ⟨k, tk, q ▸ h1⟩
  have hoL : (s1.heap.push (seqObj "list" vs.toArray 0)).get? s1.heap.objs.size = some (seqObj "list" vs.toArray 0) := Heap.get?_push_size _ rfl
  refine wpAny_bind (wpAny_newList ?_ (by rw [hvl]; exact hsz))
  refine wpAny_bind (wpAny_holding (wpAny_call_entry slot_list_sort ⟨_, hoL, rfl⟩ entry_list_sort (list_sort_treeAny hoL hI (by rw [hvl]; exact hsz) fun out ns' a1 a2 a3 => ⟨_, rfl, ?_⟩) (args_list_sort _)))
  obtain ⟨c, hc⟩ := sortedHeap_at (vs := vs) (out := out) hoL
  have pn : ns'.Perm (es.toList.map keyOf) := a2.trans (by have q := pm.map Builtin.Re.reRawOf; rw [List.map_map] at q; exact q)
  refine wpAny_pure ⟨_, rfl, hQ _ s1.heap.objs.size out c ns' (fun b u e => ?_) g1 o1 hz hc a1 (lt_of_le_nodup ns' a3 (pn.nodup_iff.mpr nd)) (fun k => by rw [pn.mem_iff, ← hm k]) (by rw [pn.length_eq, List.length_map, Array.length_toList]; exact hn)⟩
  have hlt := Heap.lt_size (k1 b u e)
  show (sortedHeap (s1.heap.push (seqObj "list" vs.toArray 0)) s1.heap.objs.size vs out).get? b = some u
  rw [sortedHeap_old (Nat.ne_of_lt hlt) (by rw [Heap.size_push]; exact Nat.lt_succ_of_lt hlt)]
  exact Heap.get?_push_of_some _ (k1 b u e)
end
section
variable {X : Cx}
/-- set(xs) -/
def rSetL (K : PySem.W.Frag) (w : World) : List V → Hp → VK → Prop := fun xs H Q => ∃ (l : Addr) (ns : List Int), xs = [.ref l] ∧ SqL K H l (ns.map V.int) ∧ ns.length ≤ 1000 ∧ ∀ p c, H p = none → c ≤ ns.length → Q (.ref p) (upd H p (SetO w p (fun j => decide (j ∈ ns)) c))
theorem cr_setL (hc : X.calm = true) : CallR X (.type "set") (rSetL X.K X.w) := by
  intro pins s σ H xs us Q I r h
  obtain ⟨l, ns, rfl, hS, hn, q⟩ := h
  rw [Vals.ref1 r]
  obtain ⟨its, rv, ⟨o, m, ho, hcl, hd, hdt⟩, _⟩ := I.list hS
  refine set_of_list (items := its.toArray) ns (I.ok.hd hc) ⟨o, ho, hcl, m, hdt⟩ (ints_of_vals rv) (by unfold scanBound; omega) fun s2 ⟨h', tk, c, e, R, hcn, k⟩ => ?_
  subst e
  exact ⟨.ref _, upd H s.heap.objs.size (SetO X.w s.heap.objs.size (fun j => decide (j ∈ ns)) c), I.laid (t' := tk) k (Nat.le_refl _) (setO_new R), rfl, q _ _ (I.hok.fresh (Nat.le_refl _)) hcn⟩
/-- sorted(found) -/
def rSortB (w : World) : List V → Hp → VK → Prop := fun vs H Q => ∃ (a : Addr) (S : Int → Bool) (n : Nat), vs = [V.ref a] ∧ H a = some (SetO w a S n) ∧ n ≤ 1000 ∧
  ∀ (ns : List Int) (p : Addr), ns.Pairwise (· < ·) → (∀ k : Int, k ∈ ns ↔ S k = true) → H p = none → Q (.ref p) (upd H p (.lst (ns.map V.int)))
theorem cr_sortB (hc : X.calm = true) : CallR X (.builtin "sorted") (rSortB X.w) := by
  intro pins s σ H vs us Q I r h
  obtain ⟨a, S, n, rfl, ha, hn, q⟩ := h
  rw [Vals.ref1 r]
  refine sorted_setB (setO_get I ha) (I.ok.hd hc) fun s' p out c ns k g o hp hg hi hs hm hl => ?_
  have hlen : (ns.map V.int).length ≤ sizeLine := by rw [List.length_map, hl, sizeLine_eq]; omega
  have hf : H p = none := I.hok.fresh hp
  have J : Inv X pins σ (upd H p (.lst (ns.map V.int))) { s with heap := s'.heap, gens := s'.gens, drawn := s'.drawn, toks := s'.toks } :=
    I.call (ch := []) (Un.laid k hp hf) (I.hok.laid k hp ⟨hlen, out.toList, c, vals_of_ints hi, hg⟩) (by rw [g]; exact I.bare) (fun _ z => nomatch z)
  have e : s' = { s with heap := s'.heap, gens := s'.gens, drawn := s'.drawn, toks := s'.toks } := by cases s'; cases s; cases o; rfl
  rw [e]
  exact ⟨.ref p, _, J, rfl, q ns p hs hm hf⟩
end
section
variable {X : Cy} {e a b c o tg kx vx elt : Expr} {r : Env2} {G : GD} {pos p0 p1 p2 : Pos}
/-- the different ints, ascending -/
def uniq (ns : List Int) : List Int := isort ((dmk (ns.map fun x => (x, true))).map (·.1))
theorem we_sortSet {Q : Res → Env2 → GD → Prop} (hcalm : X.calm = true) (hg : Gl X "sorted") (hm : X.mg "sorted" = none) (hg2 : Gl X "set") (hm2 : X.mg "set" = none)
    (h : WE X a r G fun x r1 G1 => ∃ ns : List Int, VwR r1 G1 x (.lst (ns.map D.int)) ∧ ns.length ≤ 1000 ∧ ∀ out : List Int, out.Pairwise (· < ·) → (∀ k, k ∈ out ↔ k ∈ ns) → Q (.fr (.lst (out.map D.int))) r1 G1)
    (he : starEach [.Call (.Name "set" p1) [a] [] p2] X.env = (false, eval (.Call (.Name "set" p1) [a] [] p2) X.env) :: starEach [] X.env := by rfl) (hpl : (backTo pos (starEach [] X.env)).any (·.1) = false := by rfl)
    (he2 : starEach [a] X.env = (false, eval a X.env) :: starEach [] X.env := by rfl) (hpl2 : (backTo p2 (starEach [] X.env)).any (·.1) = false := by rfl) :
    WE X (.Call (.Name "sorted" p0) [.Call (.Name "set" p1) [a] [] p2] [] pos) r G Q := fun F0 T F H σ lk S =>
  Run.of (pe_callB (cr_sortB hcalm) hg hm (by rfl) (pa_cons (pe_callTy (cr_setL hcalm) hg2 hm2 (by rfl) (pa_cons peR pa_nil he2) (by decide) (by decide) he2 hpl2) pa_nil he) (by decide) (by decide) he hpl) ((h F0 T F H σ lk S).mono fun v H1 ⟨x, r1, G1, F1, e1, S1, k1, ns, q1, q2, q3⟩ => by
    obtain ⟨l, vs, rfl, hl, hvs⟩ := (S1.viewR k1 q1).lst S1.bas.fh
    cases hvs.ints
    refine ⟨l, ns, rfl, .inl hl, q2, fun p c hp hcn => ?_⟩
    have S2 := S1.newH (o := SetO X.w p (fun j => decide (j ∈ ns)) c) hp
    refine ⟨p, _, c, rfl, upd_same, by omega, fun out p' h1 h2 hp' => ?_⟩
    obtain ⟨f1, f2, f3⟩ := S2.bas.freshF hp'
    exact ⟨.fr (.lst (out.map D.int)), r1, G1, F1, e1, S2.newH hp', ⟨p', rfl, ⟨out.map V.int, upd_same, ints_rep out⟩, f1, f2, f3, S2.freshR hp'⟩, q3 out h1 fun k => by rw [h2, decide_eq_true_eq]⟩)
end
open Out (Rt)
structure Hold (p : Prop) : Prop where
  h : p
/-- an own exception class over ValueError without an own __init__ -/
structure XC (K : PySem.W.Frag) (mg : Str → Option Value) (x : Str) (C : Addr) : Prop where
  q : PySem.W.excIn K C [.type "ValueError", .type "Exception", .type "BaseException", .type "object"] "ValueError.__new__" = true
  gC : mg x = some (.ref C)
  kC : PySem.W.keepIn K (.ref C) = true
  sb : PySem.W.subIn K (.ref C) (.type "BaseException") = some true
  ty : PySem.W.typeIn K (.ref C) = some (.type "type")
section
variable {X : Cy} {e a b c o : Expr} {es : List Expr} {r : Env2} {G : GD} {pos p0 p1 p2 rpos : Pos} {D0 : EndsD}
theorem ws_raise1 {x m : Str} {C : Addr} {j : Nat} (xc : XC X.K X.mg x C) (hc : X.calm = true) (tk : X.Tk) (hg : Gl X x) (h : X.QX ⟨.ref C, []⟩ r G) (hdb : (x == ("__debug__" : Str)) = false := by decide) :
    WS X (.Raise (some (.Call (.Name x p0) [.Constant (.str m) j p2] [] pos)) none rpos) r G D0 := fun F0 T F H σ lk S =>
  RunS.of (ps_raise hc tk (pmk_own PySem.F.excBase_ValueError xc.q xc.gC xc.kC (raises_own xc.sb xc.ty) hg hdb)) ⟨r, G, F, _, lk.sta S, ⟨rfl, .inl ⟨rfl, rfl⟩⟩, h⟩
end
/-- own objects are not seen -/
def hide : Env2 → Env2
  | [] => []
  | .own _ :: r => .no :: hide r
  | .no :: r => .no :: hide r
  | .sh d :: r => .sh d :: hide r
theorem hide_wk : ∀ r, Wk r (hide r)
  | [] => .nil
  | .own _ :: r => .no (hide_wk r)
  | .no :: r => .no (hide_wk r)
  | .sh d :: r => .eq (hide_wk r)
theorem hide_own : ∀ (r : Env2) (i : Nat) (d : D), (hide r)[i]? ≠ some (.own d)
  | [], i, d, h => by simp [hide] at h
  | .own _ :: r, 0, d, h => by simp [hide] at h
  | .no :: r, 0, d, h => by simp [hide] at h
  | .sh _ :: r, 0, d, h => by simp [hide] at h
  | .own _ :: r, i + 1, d, h => hide_own r i d (by simpa [hide] using h)
  | .no :: r, i + 1, d, h => hide_own r i d (by simpa [hide] using h)
  | .sh _ :: r, i + 1, d, h => hide_own r i d (by simpa [hide] using h)
def Cy.lam (X : Cy) (A : Around) (outer : List Env) (s : Shared) (H : Hp) (E : XK) (scope : Scope) (f c' : Addr) (F T : Hp) (QX : Exn → Env2 → GD → Prop) : Cy :=
  { LamX.lamCx X.toCx A outer s H E scope f c' with F0 := F, T := T, QX := QX }
/-- a context of the lambda's body -/
def LamY (X : Cy) (scope : Scope) (k : Nat) (px : Exn → GD → Prop) (Y : Cy) : Prop :=
  ∃ (A : Around) (outer : List Env) (s : Shared) (H : Hp) (E : XK) (f c' : Addr) (F T : Hp), Room k (A.deeper (LamX.lamEnv X.toCx scope s.heap.objs.size f c')) ∧ (X.lam A outer s H E scope f c' F T fun x _ G => px x G).Tk ∧ Y = X.lam A outer s H E scope f c' F T fun x _ G => px x G
/-- the state at the lambda's entry: as at a call, the slots shared -/
theorem Sta.enter {K : PySem.W.Frag} {F0 T F : Hp} {G : GD} {H : Hp} {r : Env2} {σ : L2.St} (S : Sta K F0 T F G H r σ) : Sta K F (Tof G H) F G H (hide r) σ := by
  have S' := S.weak (hide_wk r)
  refine ⟨⟨Ex.refl _, fun _ _ z => .inl z, S.bas.fh, S.bas.gh, S.bas.fg, fun a o z => Tof_some z, fun a o z => ?_⟩, S'.len, fun i s z => ?_, fun i j d e _ z => absurd z (hide_own r i d)⟩
  · unfold Tof at z
    split at z
    · exact z
    · cases z
  · have q := S'.sl i s z
    cases s with
    | no => trivial
    | sh d => exact q
    | own d => exact absurd z (hide_own r i d)
/-- a table grows by a code object -/
theorem Sta.tab {K : PySem.W.Frag} {F0 T F : Hp} {G : GD} {H : Hp} {r : Env2} {σ : L2.St} {P c : Addr} {q : Str} {ps more : Array Value} (S : Sta K F0 T F G H r σ) (hG : G P = some (.tab q)) (hc : H c = none)
    (ht : TriplesOk (ps ++ more).toList) (ha : ∀ (pos : Pos) (cv : Value), codeAmong pos (ps ++ more).toList = some cv → (∃ c0, cv = .ref c0 ∧ F c0 = some (LamX.CodeO c0 q)) ∨ cv = .ref c) :
    Sta K F0 T (upd F c (LamX.CodeO c q)) G (upd (upd H P (.tbl (ps ++ more))) c (LamX.CodeO c q)) r σ := by
  obtain ⟨fc, gc, tc⟩ := S.bas.freshF hc
  have fP := S.bas.fg _ _ hG
  have tP := S.bas.gt _ _ hG
  have hPc : P ≠ c := fun z => by subst z; obtain ⟨o, ho⟩ := S.bas.gh' hG; rw [hc] at ho; cases ho
  have ef : Ex F (upd F c (LamX.CodeO c q)) := Ex.new fc
  have at_ : ∀ a, a ≠ P → a ≠ c → upd (upd H P (.tbl (ps ++ more))) c (LamX.CodeO c q) a = H a := fun a h1 h2 => by rw [upd_ne h2, upd_ne h1]
  refine S.grow (G' := G) ⟨S.bas.ff.trans ef, fun a o h => ?_, fun a o h => ?_, fun a d h => ?_, fun a o h => ?_, S.bas.gt, fun a o h => ?_⟩ ef fun p h1 h2 h3 ⟨u, hu⟩ => ?_
  · by_cases e : a = c
    · subst e; exact .inr tc
    · rw [upd_ne e] at h; exact S.bas.ft a o h
  · by_cases e : a = c
    · subst e; rw [upd_same] at h ⊢; exact h
    · rw [upd_ne e] at h ⊢
      have eP : a ≠ P := fun z => by subst z; rw [fP] at h; cases h
      rw [upd_ne eP]; exact S.bas.fh a o h
  · by_cases e : a = P
    · subst e
      rw [hG] at h; cases h
      exact ⟨_, by rw [upd_ne hPc, upd_same], ht, fun pos cv hcv => by
        rcases ha pos cv hcv with ⟨c0, e1, e2⟩ | e1
        · exact ⟨c0, e1, ef _ _ e2⟩
        · exact ⟨c, e1, upd_same⟩⟩
    · have ec : a ≠ c := fun z => by subst z; rw [gc] at h; cases h
      exact (S.bas.gh a d h).mono ef fun o ho => by rw [at_ a e ec]; exact ho
  · have ec : a ≠ c := fun z => by subst z; rw [gc] at h; cases h
    rw [upd_ne ec]; exact S.bas.fg a o h
  · have ec : a ≠ c := ne_of_none h tc
    have eP : a ≠ P := ne_of_none h tP
    rw [at_ a eP ec]; exact S.bas.tk a o h
  · have ec : p ≠ c := fun z => by subst z; rw [hc] at hu; cases hu
    have eP : p ≠ P := fun z => by subst z; rw [h2] at hG; cases hG
    exact ⟨fun o ho => by rw [at_ p eP ec]; exact ho, by rw [upd_ne ec]; exact h1, h2, h3⟩
section
variable {X : Cx} {pins : List (Addr × Obj)} {σ : L2.St} {H : Hp} {s : Shared}
/-- the lambda is made; what has changed is told -/
theorem lam_mkZ {Pc : Addr → Prop} {c P : Addr} {ps : Array Value} {params : Arguments} {body : Expr} {scope : Scope} {pos : Pos} {E : Value → Shared → Prop} {Q : Value → Shared → Prop} (I : Inv X pins σ H s) (TB : LamX.TabB X.base X.mg c P) (hcode : X.env.code = .ref c)
    (hP : H P = some (.tbl ps)) (ht : TriplesOk ps.toList) (ha : ∀ (pos : Pos) (cv : Value), codeAmong pos ps.toList = some cv → ∃ c, cv = .ref c ∧ H c = some (LamX.CodeO c (X.env.qual ++ "<lambda>")) ∧ Pc c)
    (hdef : defaultsOf params X.env = ([], [])) (hfree : ∀ y ∈ scope.names, y.2 = .free → ∃ c, X.env.cells.lookup y.1 = some c)
    (h : ∀ (f c' : Addr) (pm ctv : Value) (H1 : Hp) (s' : Shared), Inv X pins σ H1 s' →
      (H1 = H ∧ Pc c' ∨ ∃ more : Array Value, H c' = none ∧ TriplesOk (ps ++ more).toList ∧ (∀ (p' : Pos) (cv : Value), codeAmong p' (ps ++ more).toList = some cv → codeAmong p' ps.toList = some cv ∨ cv = .ref c') ∧ H1 = upd (upd H P (.tbl (ps ++ more))) c' (LamX.CodeO c' (X.env.qual ++ "<lambda>"))) →
      s'.heap.get? f = some (PySem.W.kla_obj "<lambda>" (X.env.qual ++ "<lambda>") params body scope (cloFrom X.env.cells scope.names []) pm c' ctv) → H1 f = none → f ∉ frs X.stack → H1 c' = some (LamX.CodeO c' (X.env.qual ++ "<lambda>")) → s.heap.objs.size ≤ f → Q (.ref f) s') :
    wpAny (model X.prog X.w) X.A (eval (.Lambda params body scope pos) X.env) Q E s := by
  refine PySem.W.kla_eval hdef ?_
  have bB : s.heap.BuiltinsAt X.mg P := TB.bm.keeps I.bk
  have hPs : s.heap.get? P = some { cls := .none, data := .fields ps } := I.hok P _ hP
  have far : ∀ f, s.heap.objs.size ≤ f → f ∉ frs X.stack := fun f hf z => by
    rcases List.mem_cons.mp (I.stkSub _ z) with e | e
    · have l := I.lt
      rw [← e] at l
      exact absurd (Nat.lt_of_lt_of_le l hf) (Nat.lt_irrefl _)
    · exact I.nofs hf e
  cases hca : codeAmong pos ps.toList with
  | none =>
    refine PySem.W.kla_makeFunction (mg := X.mg) (c := c) (P := P) (ps := ps) (closure_ok hfree) I.ok.glob (I.mod.glob.keeps I.bk) hcode (TB.code.keeps I.bk) hPs ht hca TB.gP bB fun c1 ct1 hh tok hext hge hlt hrec htab => ?_
    obtain ⟨c2, oc, vs, tt, ec, hoc, hdat, hnam⟩ := hrec
    cases ec
    have big : s.heap.objs.size ≤ hh.objs.size := Nat.le_trans hge (Nat.le_of_lt hlt)
    have nc : H c1 = none := I.hok.fresh hge
    have J := LamX.inv_table (t' := tok) (more := #[rawInt pos.line, rawInt pos.col, .ref c1]) (h' := hh.push (PySem.W.kla_obj "<lambda>" (X.env.qual ++ "<lambda>") params body scope (cloFrom X.env.cells scope.names []) ((X.mg "__name__").getD .none) c1 ct1)) (q := X.env.qual ++ "<lambda>") I hP
      (fun b ob hb eb => Heap.get?_push_of_some _ (hext b ob hb eb)) (Heap.get?_push_of_some _ htab) hge ⟨oc, vs, tt, Heap.get?_push_of_some _ hoc, hdat, hnam⟩
    have el : (ps ++ #[rawInt pos.line, rawInt pos.col, .ref c1]).toList = ps.toList ++ [rawInt pos.line, rawInt pos.col, .ref c1] := by simp
    refine h hh.objs.size c1 ((X.mg "__name__").getD .none) ct1 _ _ J (.inr ⟨_, nc, by rw [el]; exact PySem.TriplesOk_snoc _ _ _ _ ht, fun p' cv hcv => ?_, rfl⟩) (Heap.get?_push_size _ rfl) ?_ (far _ big) upd_same big
    · rw [el] at hcv
      exact LamX.among_app _ ht hcv
    · have n1 : hh.objs.size ≠ c1 := Nat.ne_of_gt hlt
      have n2 : hh.objs.size ≠ P := Nat.ne_of_gt (Nat.lt_of_lt_of_le (Heap.lt_size hPs) big)
      rw [upd_ne n1, upd_ne n2]
      exact I.hok.fresh big
  | some cv =>
    obtain ⟨c1, ec, hco, hpc⟩ := ha pos cv hca
    subst ec
    refine PySem.W.kla_makeFunctionHit (mg := X.mg) (c := c) (P := P) (ps := ps) (closure_ok hfree) I.ok.glob (I.mod.glob.keeps I.bk) hcode (TB.code.keeps I.bk) hPs ht hca bB fun ct1 hh tok hext big => ?_
    have J : Inv X pins σ H { s with heap := hh.push (PySem.W.kla_obj "<lambda>" (X.env.qual ++ "<lambda>") params body scope (cloFrom X.env.cells scope.names []) ((X.mg "__name__").getD .none) c1 ct1), toks := tok } := I.kept fun b ob eb => Heap.get?_push_of_some _ (hext b ob eb)
    exact h hh.objs.size c1 ((X.mg "__name__").getD .none) ct1 H _ J (.inl ⟨rfl, hpc⟩) (Heap.get?_push_size _ rfl) (I.hok.fresh big) (far _ big) hco big
end
abbrev zcx (P : Program) (w : World) (K : PySem.W.Frag) (mg : Str → Option Value) (base : Heap) (Ng : List Str) (x : Str) (sg : Scope) (g : Addr) (cdg : Value) (A : Around) (outer : List Env) (s : Shared) (H : Hp) : Cx := cxOf C8.CX0 P w K mg base Ng x sg g cdg A outer s H C8.E0
/-- what the caught exception makes, told at the state -/
def Caught (K : PySem.W.Frag) (hd : Exn → (D → Prop) → Prop) (Q : VK) : XK := fun cls d H' => ∃ (F' : Hp) (G' : GD) (x : Exn) (p : D → Prop), Ex F' H' ∧ (∀ a d, G' a = some d → Own K F' H' a d) ∧ (∀ a o, G' a = some o → F' a = none) ∧ ExOk K F' cls d x ∧ hd x p ∧
  ∀ v H'' F'' dres, Bas K F' (Tof G' H') F'' G' H'' → Rep K F'' dres v → p dres → Q v H''
def GivE (P : Program) (w : World) (K : PySem.W.Frag) (mg : Str → Option Value) (base : Heap) (Ng : List Str) (x : Str) (sg : Scope) (g : Addr) (cdg : Value) (bg : List Stmt) (a : Str) (okd : Option V) (hd : Exn → (D → Prop) → Prop) : Prop :=
  ∀ (q : Str) (A : Around) (outer : List Env) (s : Shared) (H : Hp) (f c' : Addr) (Q : VK) (tl : XK → Hp → VK → Prop),
    (∀ (W : WX) (pn : List (Addr × Obj)) (xe : Value → Shared → Prop) (E : XK) (p1 p2 : Pos), Takes ((zcx P w K mg base Ng x sg g cdg A outer s H).tr pn xe) W → (∀ cls d σ' H', E cls d H' → W cls d σ' H') →
      PE ((zcx P w K mg base Ng x sg g cdg A outer s H).tr pn xe) (.Call (.Name a p1) [] [] p2) (fun σZ HZ Q => σZ[0]? = some (some (.ref f)) ∧ HZ c' = some (LamX.CodeO c' q) ∧ tl E HZ Q)) →
    H c' = some (LamX.CodeO c' q) → (zcx P w K mg base Ng x sg g cdg A outer s H).A.units + 64 < cLine →
    (∃ Ech : XK, tl Ech H (fun v H' => Q (okd.getD v) H') ∧ ∀ cls d H', Ech cls d H' → Caught K hd Q cls d H') →
    ∃ t, PSs (zcx P w K mg base Ng x sg g cdg A outer s H).nox bg t ∧ t { nx := fun _ H' => Q .non H', rt := Q } (L2.start Ng [.ref f]) H
/-- the promise of such a def -/
structure LErr (P : Program) (w : World) (K : PySem.W.Frag) (mg : Str → Option Value) (base : Heap) (x : Str) (okd : Option V) (hd : Exn → (D → Prop) → Prop) : Prop where
  ex : ∃ (g : Addr) (st : Stmt) (fd : FuncData) (a : Str) (Ng : List Str), Fun K x x st g fd ∧ mg x = some (.ref g) ∧ Binds K fd [a] [] ∧ FnScope Ng [a] (defScope st) ∧ Ng[0]? = some a ∧ Vis (defScope st) a ∧ (a == ("__debug__" : Str)) = false ∧ (a == ("__classdict__" : Str)) = false ∧
    ∀ cdg, GivE P w K mg base Ng x (defScope st) g cdg (defBody st) a okd hd
structure RoomS (A : Around) : Prop where
  units : A.units + 64 < cLine
/-- a context of the suite, the exception x at a -/
def SuiY (Z : Cx) (x : Exn) (a : Addr) (Y : Cy) : Prop := ∃ (oe : Obj) (pn : List (Addr × Obj)) (d : Option Addr) (F T : Hp), RoomS Z.A ∧ Zc x.cls d oe ∧ (∃ vs, oe.data = .fields vs) ∧ ExOk Z.K F x.cls d x ∧ Y = { Z.suite a ((a, oe) :: pn) with F0 := F, T := T, QX := fun _ _ _ => False }
theorem takes_len {X : Cx} {W : WX} (t : Takes X W) : Takes X (fun cls d σ H => σ.length = X.N.length → W cls d σ H) := fun u s' ⟨a, B, sI, pins, σ, H, cls, d, e, I, nb, up, sky, na, os, ag, w⟩ =>
  t u s' ⟨a, B, sI, pins, σ, H, cls, d, e, I, nb, up, sky, na, os, ag, w I.len⟩
/-- the slots of the suite: the exception alone -/
def excS (n i : Nat) (a : Addr) : Env2 := (List.replicate n Sl.no).set i (.sh (.adr a))
theorem sta_exc {K : PySem.W.Frag} {F : Hp} {G : GD} {H : Hp} {σ : L2.St} {n i : Nat} {a : Addr} (hl : σ.length = n) (e1 : Ex F H) (e2 : ∀ a d, G a = some d → Own K F H a d) (e3 : ∀ a o, G a = some o → F a = none) :
    Sta K F (Tof G H) F G H (excS n i a) (σ.set i (some (.ref a))) := by
  refine ⟨⟨Ex.refl _, fun _ _ z => .inl z, e1, e2, e3, fun a o z => Tof_some z, fun a o z => ?_⟩, ?_, fun j s z => ?_, fun j k d e _ z => ?_⟩
  · unfold Tof at z
    split at z
    · exact z
    · cases z
  · unfold excS
    rw [List.length_set, List.length_set, List.length_replicate, hl]
  · unfold excS at z
    by_cases hj : i = j
    · subst hj
      by_cases hi : i < n
      · rw [List.getElem?_set_self (by rw [List.length_replicate]; exact hi)] at z
        cases z
        rw [List.getElem?_set_self (by rw [hl]; exact hi)]
        exact ⟨.ref a, rfl, rfl⟩
      · rw [List.getElem?_eq_none (by rw [List.length_set, List.length_replicate]; omega)] at z
        cases z
    · rw [List.getElem?_set_ne hj, List.getElem?_replicate] at z
      split at z
      · cases z; trivial
      · cases z
  · exfalso
    unfold excS at z
    by_cases hj : i = j
    · subst hj
      by_cases hi : i < n
      · rw [List.getElem?_set_self (by rw [List.length_replicate]; exact hi)] at z
        cases z
      · rw [List.getElem?_eq_none (by rw [List.length_set, List.length_replicate]; omega)] at z
        cases z
    · rw [List.getElem?_set_ne hj, List.getElem?_replicate] at z
      split at z
      · cases z
      · cases z
section
variable {P : Program} {w : World} {K : PySem.W.Frag} {mg : Str → Option Value} {base : Heap} {Ng : List Str} {x e n a ret : Str} {sg : Scope} {g CR : Addr} {cdg : Value} {hd : Exn → (D → Prop) → Prop} {suite : List Stmt} {b0 : Stmt} {p1 p2 p3 p4 p5 p6 p7 p8 : Pos} {i j : Nat}
/-- the clause, from the suite's rows -/
theorem clause_ok {A : Around} {outer : List Env} {s : Shared} {H0 : Hp} {Q : VK} {D1 : Ends} (hu : (zcx P w K mg base Ng x sg g cdg A outer s H0).A.units + 64 < cLine) (hrt : D1.rt = Q) (hexm : ∀ x p, hd x p → PySem.W.exmOne K x.cls (.ref CR) = some true)
    (hsu : ∀ (A : Around) (outer : List Env) (s : Shared) (H : Hp) (x0 : Exn) (p : D → Prop) (ad : Addr) (G : GD) (Y : Cy), hd x0 p → SuiY (zcx P w K mg base Ng x sg g cdg A outer s H).nox x0 ad Y →
      WB Y (b0 :: suite) (excS Ng.length i ad) G { nx := fun _ _ => False, rt := fun y G' => ∃ d, y = .sh d ∧ G' = G ∧ p d })
    (cls : Value) (d : Option Addr) (σ' : L2.St) (H' : Hp) (hq : Caught K hd Q cls d H') (hl : σ'.length = Ng.length) :
    wAs K (.ref CR) i (fun ad cls d D2 σ H => ∀ (oe : Obj) (pn : List (Addr × Obj)), Zc cls d oe → (∃ vs, oe.data = .fields vs) → RunB ((zcx P w K mg base Ng x sg g cdg A outer s H0).nox.suite ad ((ad, oe) :: pn)) (b0 :: suite) D2 σ H) (fun _ _ _ _ => False) D1 cls d σ' H' := by
  obtain ⟨F', G', xn, p, k1, k2, k3, ex, hh, hf⟩ := hq
  have ec : xn.cls = cls := ex.1
  refine ⟨true, by rw [← ec]; exact hexm xn p hh, fun _ ad na oe pn hz hv => ?_, fun z => by cases z⟩
  have Y := hsu A outer s H0 xn p ad G' { (zcx P w K mg base Ng x sg g cdg A outer s H0).nox.suite ad ((ad, oe) :: pn) with F0 := F', T := Tof G' H', QX := fun _ _ _ => False } hh ⟨oe, pn, d, F', Tof G' H', ⟨hu⟩, by rw [ec]; exact hz, hv, by rw [ec]; exact ex, rfl⟩
  refine (Y F' (Tof G' H') F' H' (σ'.set i (some (.ref ad))) ⟨Ex.refl _, Ex.refl _, fun _ _ z => .inl z⟩ (sta_exc hl k1 k2 k3)).mono (fun σ2 H2 ⟨_, _, _, _, z⟩ => z.elim) (fun v H2 ⟨y, G2, F2, B, rt, dd, hy, hg, hp⟩ => ?_) (fun σ2 H2 ⟨_, _, _, _, z⟩ => z.elim) (fun σ2 H2 ⟨_, _, _, _, z⟩ => z.elim)
  subst hy hg
  show D1.rt v H2
  rw [hrt]
  exact hf v H2 F2 dd B rt hp
/-- try: return a() / except e as n: suite -/
theorem give_fail (hi : Ng[i]? = some n) (nd : Ng.Nodup) (hln : sg.names.lookup n = some .local) (hge : sg.names.lookup e = some .globalImplicit) (hme : mg e = some (.ref CR)) (hde : (e == ("__debug__" : Str)) = false) (hNa : Ng[0]? = some a)
    (hexm : ∀ x p, hd x p → PySem.W.exmOne K x.cls (.ref CR) = some true)
    (hsu : ∀ (A : Around) (outer : List Env) (s : Shared) (H : Hp) (x0 : Exn) (p : D → Prop) (ad : Addr) (G : GD) (Y : Cy), hd x0 p → SuiY (zcx P w K mg base Ng x sg g cdg A outer s H).nox x0 ad Y →
      WB Y (b0 :: suite) (excS Ng.length i ad) G { nx := fun _ _ => False, rt := fun y G' => ∃ d, y = .sh d ∧ G' = G ∧ p d }) :
    GivE P w K mg base Ng x sg g cdg [.Try [.Return (some (.Call (.Name a p1) [] [] p2)) p3] [.ExceptHandler (some (.Name e p4)) (some n) (b0 :: suite) p5] [] [] p6] a none hd := by
  intro q A outer s H f c' Q tl act hc hu ⟨Ech, h1, h3⟩
  have hgl : Gl (zcx P w K mg base Ng x sg g cdg A outer s H).nox e := hge
  have h0 : (L2.start Ng [V.ref f])[0]? = some (some (V.ref f)) := rfl
  refine ⟨_, pss_one (ps_try_as (X := (zcx P w K mg base Ng x sg g cdg A outer s H).nox) (c := .ref CR) (i := i)
      (tb := fun W D σ H' => ∃ Ech : XK, (∀ cls d σ' H', Ech cls d H' → σ'.length = Ng.length → W cls d σ' H') ∧ σ[0]? = some (some (.ref f)) ∧ H' c' = some (LamX.CodeO c' q) ∧ tl Ech H' D.rt)
      (ts := fun ad cls d D2 σ H' => ∀ (oe : Obj) (pn : List (Addr × Obj)), Zc cls d oe → (∃ vs, oe.data = .fields vs) → RunB ((zcx P w K mg base Ng x sg g cdg A outer s H).nox.suite ad ((ad, oe) :: pn)) (b0 :: suite) D2 σ H')
      rfl rfl nd hi hln ⟨hgl, hde, .inl hme⟩ LamX.takes0 (fun W pn xe tk _ => ?_) (fun ad oe cls d pn hz hv => ⟨fun pins s' σ H' D I h' => ?_⟩)), ?_⟩
  · refine ⟨fun pins s' σ H' D I h' => ?_⟩
    obtain ⟨Ech', hW, k1, k2, k3⟩ := h'
    have hp := act _ pn xe Ech' p1 p2 (takes_len tk) (fun cls d σ' H' z => hW cls d σ' H' z)
    exact (pss_one (ps_ret (pos := p3) hp)).run pins s' σ H' D I ⟨k1, k2, k3⟩
  · exact h' oe pn hz hv pins s' I
  · exact ⟨Ech, fun cls d σ' H' z hl => clause_ok hu rfl hexm hsu cls d σ' H' (h3 cls d H' z) hl, h0, hc, h1⟩
end
section
variable {Z : Cx} {a0 : Addr} {oe : Obj} {pn : List (Addr × Obj)} {C D1 : Addr} {d : Option Addr}
def rIsX (K : PySem.W.Frag) (D a : Addr) (d : Option Addr) : List V → Hp → VK → Prop := fun xs H Q => ∃ (c : V) (cv : Value) (b : Bool), xs = [.ref a, c] ∧ (∀ u, RelV c u → u = cv) ∧ PySem.W.kitOne K (.ref D) cv = some b ∧ (d = none ∨ ∃ dd fs, d = some dd ∧ H dd = some (.xd fs)) ∧ Q (.bl b) H
theorem call_isX (T : ExcC Z.K D1) (hz : Zc (.ref D1) d oe) (hf : ∃ vs, oe.data = .fields vs) : CallR (Z.suite a0 ((a0, oe) :: pn)) (.builtin "isinstance") (rIsX Z.K D1 a0 d) := by
  intro pins s σ H xs us Q I r h
  obtain ⟨c, cv, b, rfl, hcv, e, hdd, q⟩ := h
  cases r with
  | cons rx rr =>
    cases rr with
    | cons rt rr =>
      cases rr
      cases rx
      have ec := hcv _ rt
      subst ec
      obtain ⟨hget, _⟩ := I.pin (a0, oe) (List.mem_append.mpr (.inl List.mem_cons_self))
      obtain ⟨vs, hv⟩ := hf
      obtain ⟨cd, hcl, _⟩ := PySem.W.any_some T.hd
      have hcs : (PySem.W.clsIn Z.K D1).isSome = true := by rw [hcl]; rfl
      have J : ∃ od, PySem.W.InstAt s.heap a0 oe D1 od := by
        rcases hdd with h0 | ⟨dd, fs, h1, h2⟩
        · exact ⟨none, hget, hz.1, by unfold PySem.W.notCls; rw [hv] <;> rfl, by rw [hz.2, h0]; exact True.intro⟩
        · have hx : ObjOk Z.prog Z.w H s.heap dd (.xd fs) := I.hok dd _ h2
          obtain ⟨mA, hns, _⟩ := hx
          obtain ⟨od, ho, _⟩ := lookIn_ns hns
          exact ⟨some od, hget, hz.1, by unfold PySem.W.notCls; rw [hv] <;> rfl, by rw [hz.2, h1]; exact ho⟩
      obtain ⟨od, J⟩ := J
      exact PySem.W.kia_one (PySem.W.kitx_exc hcs T.hg T.hk T.hs T.ha T.hn T.ht T.hm) I.kIn J e (fun z => nomatch z) fun tk => ⟨.bl b, H, I.kept (t' := tk) fun _ _ z => z, rfl, q⟩
end
section
variable {Z : Cx} {x0 : Exn} {a0 : Addr} {Y : Cy} {oe : Obj} {pn : List (Addr × Obj)} {d : Option Addr} {F1 T1 : Hp} {r : Env2} {G : GD} {a : Expr} {pos p0 : Pos}
theorem ExOk.dict {K : PySem.W.Frag} {F H : Hp} {cls : Value} {d : Option Addr} {x : Exn} (h : ExOk K F cls d x) (e : Ex F H) : d = none ∨ ∃ dd fs, d = some dd ∧ H dd = some (.xd fs) := by
  obtain ⟨_, ⟨h2, h3⟩ | ⟨a, vs, h2, h3, h4⟩⟩ := h
  · exact .inl h2
  · exact .inr ⟨a, _, h2, e _ _ h3⟩
theorem we_isX {x y : Str} {C C' : Addr} {py : Pos} {Q : Res → Env2 → GD → Prop} (T : ExcC Z.K C) (hz : Zc (.ref C) d oe) (hf : ∃ vs, oe.data = .fields vs) (ex : ExOk Z.K F1 (.ref C) d x0)
    (hg : Gl Z x) (hm : Z.mg x = none) (hv : bootBuiltins x = some (.builtin "isinstance")) (hg2 : Gl Z y) (hm2 : Z.mg y = some (.ref C'))
    (h : WE { Z.suite a0 ((a0, oe) :: pn) with F0 := F1, T := T1, QX := fun _ _ _ => False } a r G fun z r1 G1 => ∃ c, z = .sh (.adr a0) ∧ PySem.W.kitOne Z.K (.ref C) (.ref C') = some c ∧ Q (.sh (.bl c)) r1 G1)
    (hn : x ≠ "__name__" := by decide) (hdb : (x == ("__debug__" : Str)) = false := by decide) (hdb2 : (y == ("__debug__" : Str)) = false := by decide)
    (he : starEach [a, .Name y py] Z.env = (false, eval a Z.env) :: starEach [.Name y py] Z.env := by rfl) (he2 : starEach [.Name y py] Z.env = (false, eval (.Name y py) Z.env) :: starEach [] Z.env := by rfl) (hpl : (backTo pos (starEach [.Name y py] Z.env)).any (·.1) = false := by rfl) :
    WE { Z.suite a0 ((a0, oe) :: pn) with F0 := F1, T := T1, QX := fun _ _ _ => False } (.Call (.Name x p0) [a, .Name y py] [] pos) r G Q := fun F0 T' F H σ lk S =>
  Run.of (pe_callB (call_isX T hz hf) hg hm hv (pa_cons peR (pa_cons (pe_glob (v := .ref C') hg2 hm2 rfl hdb2) pa_nil he2) he) hn hdb he hpl) ((h F0 T' F H σ lk S).mono fun v H1 ⟨z, r1, G1, F2, e1, S1, k1, c, q1, q3, q4⟩ => by
    subst q1
    cases (show v = .ref a0 from k1)
    exact ⟨.ref C', .ref C', c, rfl, fun w hw => hw, q3, ex.dict ((lk.f.trans S1.bas.ff).trans S1.bas.fh), .sh (.bl c), r1, G1, F2, e1, S1, rfl, q4⟩)
end
section
variable {P : Program} {w : World} {K : PySem.W.Frag} {mg : Str → Option Value} {base : Heap}
theorem def_okC {x qual : Str} {st : Stmt} {f c : Addr} {fd : FuncData} {N ps : List Str} {k : Nat} {sp : FSp} (Fo : Fun K x qual st f fd) (hc : fd.code = .ref c) (S : FnScope N ps (defScope st)) (len : ∀ ds G post px, sp ds G post px → ds.length = ps.length)
    (hbody : ∀ (A : Around) (outer : List Env) (s : Shared) (H : Hp) (E : XK) (F T : Hp), Room k (A.deeper (envOfC qual (defScope st) s.heap.objs.size f (.ref c))) → ∀ (ds : List D) (G : GD) (post : Res → GD → Prop) (px : Exn → GD → Prop), sp ds G post px →
      (cyOf P w K mg base N qual (defScope st) f (.ref c) A outer s H E F T px).Tk → PassesOwn (model P w) (cyOf P w K mg base N qual (defScope st) f (.ref c) A outer s H E F T px).A (cyOf P w K mg base N qual (defScope st) f (.ref c) A outer s H E F T px).env (cyOf P w K mg base N qual (defScope st) f (.ref c) A outer s H E F T px).xe →
      WB (cyOf P w K mg base N qual (defScope st) f (.ref c) A outer s H E F T px) (defBody st) (startD N ds) G { nx := fun _ G' => post (.sh .non) G', rt := post }) : FnOk P w K mg base (L2.CX P w) (k + 1) f fd ps (spD K sp) := by
  obtain ⟨oc, od, kV, doc, pm, an, cdv, ct, osl, hfd, lk, hcd⟩ := Fo.ex
  have ec : cdv = .ref c := by rw [hfd] at hc; exact hc
  subst hfd
  subst ec
  refine fn_of lk hcd S (fun vs H Q E h => ?_) (fun A outer s H vs Q E hr h => ?_)
  · obtain ⟨F, G, ds, post, px, _, _, _, rp, hf, _⟩ := h
    rw [rp.length, len ds G post px hf]
  · obtain ⟨F, G, ds, post, px, e1, e2, e3, rp, hf, hq, hx⟩ := h
    have hl : ds.length ≤ N.length := by
      rw [len ds G post px hf]
      have := congrArg List.length S.pre
      rw [List.length_take] at this
      omega
    refine ⟨RunB _ (defBody st), pbR, ?_⟩
    have tk : (cyOf P w K mg base N qual (defScope st) f (.ref c) A outer s H E F (Tof G H) px).Tk := (takes_of (E := E) rfl rfl rfl rfl).imp fun cls d σ H' ⟨r, G', F', x, S', ex, q⟩ => hx x cls d G' H' F' q S'.bas ex
    refine (hbody A outer s H E F (Tof G H) hr ds G post px hf tk (passes_of rfl) F (Tof G H) F H (L2.start N vs) ⟨Ex.refl _, Ex.refl _, fun _ _ z => .inl z⟩ (sta_start hl e1 e2 e3 rp)).mono (fun σ' H' ⟨r', G', F', S', q⟩ => ?_) (fun v H' ⟨x, G', F', B, rt, q⟩ => hq x G' v H' F' q B rt) (fun _ _ ⟨_, _, _, _, q⟩ => q) (fun _ _ ⟨_, _, _, _, q⟩ => q)
    exact hq (.sh .non) G' .non H' F' q S'.bas rfl
end
def FLawT (P : Addr) (q : Str) (f : List Int → Out Bool) : FSp := fun ds G post _ => ∃ ns, ds = [.scr ns] ∧ G P = some (.tab q) ∧ (f ns).sat (fun v => ∀ G', post (.sh (.bl v)) G') (fun _ => False)
theorem bxH_tab {G0 : GD} {b g P : Addr} {q : Str} {x : Bh} (h : G0 P = some (.tab q)) (hb : G0 b = none) (hg : G0 g = none) : bxH G0 b g x P = some (.tab q) := by
  have h1 : P ≠ b := fun z => by rw [z, hb] at h; cases h
  have h2 : P ≠ g := fun z => by rw [z, hg] at h; cases h
  unfold bxH
  rw [updG_ne h1, updG_ne h2]; exact h
theorem law_spT {K : PySem.W.Frag} {H : Hp} {a P : Addr} {q : Str} {ns : List Int} {m : List Int → Out Bool} (hT : H P = some (.tbl #[])) (hS : SqL K H a (ns.map V.int)) (ht : m ns = .ok true) : spD K (FLawT P q m) [.ref a] H (fun v _ => v = .bl true) fun _ _ _ => False := by
  have hne : ∀ {u : HO}, H a = some u → (∀ ps, u ≠ .tbl ps) → a ≠ P := fun {u} e n z => by
    subst z
    rw [hT] at e
    cases e
    exact n _ rfl
  refine ⟨fun b => if b = P then none else H b, fun b => if b = P then some (.tab q) else none, [.scr ns], fun x _ => x = .sh (.bl true), fun _ _ => False, fun b o h => ?_, fun b d h => ?_, fun b o h => ?_, ⟨_, _, rfl, ⟨a, rfl, ?_⟩, rfl⟩, ⟨ns, rfl, if_pos rfl, by rw [ht]; exact fun _ => rfl⟩, fun x G' v H' F' hp B rt => by subst hp; exact rt, fun _ _ _ _ _ _ z => z.elim⟩
  · have h : (if b = P then none else H b) = some o := h
    split at h
    · cases h
    · exact h
  · have h2 : (if b = P then some (D.tab q) else none) = some d := h
    clear h
    by_cases e : b = P
    · rw [if_pos e] at h2
      cases h2
      rw [e]
      exact ⟨#[], hT, True.intro, fun pos cv hc => by
        have z : codeAmong pos [] = some cv := hc
        simp [codeAmong] at z⟩
    · rw [if_neg e] at h2; cases h2
  · have h : (if b = P then some (D.tab q) else none) = some o := h
    by_cases e : b = P
    · exact if_pos e
    · rw [if_neg e] at h; cases h
  · rcases hS with (h | ⟨o, h⟩) | h
    · exact .inl (.inl (by show (if a = P then none else H a) = _; rw [if_neg (hne h fun ps z => by cases z)]; exact h))
    · exact .inl (.inr ⟨o, by show (if a = P then none else H a) = _; rw [if_neg (hne h fun ps z => by cases z)]; exact h⟩)
    · exact .inr h
theorem walkT {l : PySem.W.OpenLaw} {q : Program} {loose : List Str} {XP : (Str → Option Value) → Heap → Prop} {YP : World → Heap → Prop} {d : DefRec} {K : Params → PySem.W.Frag} {m : List Int → Out Bool} {k : Nat} {qn : Str} (hn : l.most = some 63) (hdf : d.params.defaults = []) (hr : Room k callerA)
    (hrec : ((recsOf q).any fun e => e.name == d.name) = true) (hY : ∀ (w : World) (h : Heap), YP w h → (K w.params).In h) (hm : ∀ ns : List Int, ns.length ≤ 63 → m ns = .ok true)
    (F : ∀ (w : World) (mg : Str → Option Value) (fa : Addr) (h : Heap), (K w.params).In h → h.Ns mainGlobals mg → mg d.name = some (.ref fa) →
      ∃ (fd : FuncData) (c P : Addr) (e0 : Value) (d0 : Option Addr) (vs0 : Array Value) (sl0 : Array (Option Value)) (o : Obj), (K w.params).lookup fa = some o ∧ o.data = .func fd ∧ fd.code = .ref c ∧ (K w.params).lookup c = some ⟨e0, d0, .fields vs0, sl0⟩ ∧ vs0[11]? = some (.ref P) ∧ (K w.params).lookup P = none ∧ PySem.W.codeHdIn (K w.params) c P = true ∧
        (∀ (s : Shared) (u : Value), BindsTo s fd ⟨[u], []⟩ [("_law_script", u)]) ∧ ∀ base : Heap, (K w.params).In base → base.Ns mainGlobals mg → LamX.TabB base mg c P → FnOk l.prog w (K w.params) mg base (L2.CX l.prog w) k fa fd ["_law_script"] (spD (K w.params) (FLawT P qn m))) :
    PySem.W.WalkO q loose XP YP l.row.toRowW d [] (fun f vs => PySem.call f vs) := by
  refine LamX.walk_ofOwn (n := 63) (k := k) (x := "_law_script") (CX := fun w => L2.CX l.prog w) hn (by decide) hdf hr hrec hY (fun w mg fa h Y KX G hmg own => ?_) fun w H s e s' h => by
    obtain ⟨_, _, _, _, _, _, _, _, _, _, _, _, z⟩ := h
    exact z
  obtain ⟨fd, c, P, e0, d0, vs0, sl0, o, h1, h2, h3, h4, h5, h6, h7, hb, hF⟩ := F w mg fa h KX G hmg
  refine ⟨fd, [(c, P)], spD (K w.params) (FLawT P qn m), fun p hp => ?_, fun p hp => ?_, fun p hp => ?_, hb, fun H a ns hl _ hT hS => ?_, fun base k1 k2 k3 => hF base k1 k2 (k3 (c, P) List.mem_cons_self)⟩
  · cases List.mem_singleton.mp hp
    exact own c P o fd e0 d0 vs0 sl0 h1 h2 h3 h4 h5
  · cases List.mem_singleton.mp hp
    exact h6
  · cases List.mem_singleton.mp hp
    exact PySem.W.codeHd_of_K KX h7
  · exact law_spT (hT (c, P) List.mem_cons_self) hS (hm ns hl)
open Out (Rt)
inductive IB where
  | i (n : Int) | b (x : Bool)
deriving DecidableEq
abbrev eIB : IB → D := fun v => match v with
  | .i n => .int n
  | .b x => .bl x
def IB.int? : IB → Option Int
  | .i n => some n
  | .b _ => none
@[simp] theorem IB.int?_i (n : Int) : (IB.i n).int? = some n := rfl
@[simp] theorem IB.int?_b (x : Bool) : (IB.b x).int? = none := rfl
def hdOf (cx : Nat → Addr) {ρ : Type} (er : ρ → D) (hd : Xm → Option ρ) : Exn → (D → Prop) → Prop := fun xn p => ∃ x v, xn = xnOf cx x ∧ hd x = some v ∧ p (er v)
section
variable {X : Cy} {e body : Expr} {r : Env2} {G : GD} {p pos lpos : Pos} {cx : Nat → Addr} {α β ρ : Type}
theorem we_num {Q : Res → Env2 → GD → Prop} (h : WE X e r G fun z r1 G1 => ∃ (x : IB) (y : Int), z = .sh (eIB x) ∧ x.int? = some y ∧ Q (.sh (.int y)) r1 G1) : WE X e r G Q :=
  h.mono fun z r1 G1 ⟨x, y, h1, h2, q⟩ => by
    subst h1
    cases x with
    | i n => cases h2; exact q
    | b x => cases h2
end
open Out (Rt)
section
variable {X : Cy} {e : Expr} {r : Env2} {G : GD}
theorem we_env {Q : Res → Env2 → GD → Prop} (R : Env2) (hr : r = R) (k : WE X e R G Q) : WE X e r G Q := by subst hr; exact k
end
theorem RepL.bools {K : PySem.W.Frag} {F : Hp} : ∀ {ns : List Bool} {vs : List V}, RepL K F (ns.map D.bl) vs → vs = ns.map V.bl
  | [], vs, h => h
  | n :: ns, vs, h => by
    obtain ⟨v, r, rfl, h2, h3⟩ := h
    cases (show v = .bl n from h2)
    rw [RepL.bools h3]; rfl
def idxB (b : Bool) (xs : List Bool) : Option Nat := xs.findIdx? (· == b)
section
variable {X : Cy}
theorem eqV_bl (a b : Bool) : eqV (.bl a) (.bl b) = (a == b) := by cases a <;> cases b <;> rfl
theorem t_indexB {Q : Res → Prop} {xs : List Bool} {b : Bool} {j : Nat} (hj : idxB b xs = some j) (q : Q (.sh (.int (j : Nat)))) : MtW X "list.index" (.lst (xs.map D.bl)) (.bl b) Q := fun F0 T F G H r σ v w S h hw => by
  obtain ⟨p, vs, rfl, k1, k2⟩ := h.lst S.bas.fh
  cases k2.bools
  cases hw.bl
  unfold idxB at hj
  rw [List.findIdx?_eq_some_iff_getElem] at hj
  obtain ⟨hl, h1, h2⟩ := hj
  refine ⟨_, mt_index, p, xs.map V.bl, .bl b, j, .bl xs[j], rfl, rfl, .inl k1, rfl, by rw [List.all_map]; exact List.all_eq_true.mpr fun _ _ => rfl, ?_, by rw [eqV_bl]; exact h1, fun m z' hm hz => ?_, .sh (.int (j : Nat)), F, Ex.refl _, S, rfl, q⟩
  · rw [List.getElem?_map, List.getElem?_eq_getElem hl]; rfl
  · rw [List.getElem?_map, List.getElem?_eq_getElem (Nat.lt_trans hm hl)] at hz
    cases hz
    rw [eqV_bl]
    exact Bool.eq_false_iff.mpr (h2 m hm)
end
def xcx (l : List Addr) (n : Nat) : Addr := l.getD n 0
theorem kit_typ {K : PySem.W.Frag} {D1 : Addr} {b : Bool} (hs : PySem.W.subIn K (.ref D1) (.type "ValueError") = some b) : PySem.W.kitOne K (.ref D1) (.type "ValueError") = some b := by
  unfold PySem.W.kitOne
  rw [if_neg (show ¬ ((Value.ref D1 == Value.type "ValueError") = true) from fun h => by cases (beq_iff_eq.mp h))]
  unfold PySem.W.kitCls
  dsimp only
  rw [if_pos (by decide +kernel), hs]
open Out (Rt)
open Out (Rt)
abbrev lamFd (q : Str) (params : Arguments) (body : Expr) (scope : Scope) (cl : List (Str × Addr)) (T : Addr) (doc pm cv ctv : Value) : FuncData := PySem.W.kdv_fn "<lambda>" q params (.expr body) scope cl (.ref T) doc pm cv ctv
abbrev lamOb (q : Str) (params : Arguments) (body : Expr) (scope : Scope) (cl : List (Str × Addr)) (T : Addr) (doc pm : Value) (c' : Addr) (ctv : Value) : Obj := PySem.W.kdv_obj "<lambda>" q params (.expr body) scope cl (.ref T) doc pm c' ctv
section
variable {X : Cx} {pins : List (Addr × Obj)} {σ : L2.St} {H : Hp} {s : Shared}
theorem lam_mkDZ {Pc : Addr → Prop} {c P : Addr} {ps : Array Value} {params : Arguments} {body : Expr} {scope : Scope} {pos : Pos} {E : Value → Shared → Prop} {Q : Value → Shared → Prop} {n : Int} {cj : Nat} {cp : Pos} (I : Inv X pins σ H s) (TB : LamX.TabB X.base X.mg c P) (hcode : X.env.code = .ref c)
    (hP : H P = some (.tbl ps)) (ht : TriplesOk ps.toList) (ha : ∀ (pos : Pos) (cv : Value), codeAmong pos ps.toList = some cv → ∃ c, cv = .ref c ∧ H c = some (LamX.CodeO c (X.env.qual ++ "<lambda>")) ∧ Pc c)
    (hdf : params.defaults = [.Constant (.int n) cj cp]) (hkd : params.kw_defaults = []) (hko : params.kwonlyargs = []) (hfree : ∀ y ∈ scope.names, y.2 = .free → ∃ c, X.env.cells.lookup y.1 = some c)
    (h : ∀ (f c' T : Addr) (tk : Tok) (doc pm ctv : Value) (H1 : Hp) (s' : Shared), Inv X pins σ H1 s' →
      (H1 = H ∧ Pc c' ∨ ∃ more : Array Value, H c' = none ∧ TriplesOk (ps ++ more).toList ∧ (∀ (p' : Pos) (cv : Value), codeAmong p' (ps ++ more).toList = some cv → codeAmong p' ps.toList = some cv ∨ cv = .ref c') ∧ H1 = upd (upd H P (.tbl (ps ++ more))) c' (LamX.CodeO c' (X.env.qual ++ "<lambda>"))) →
      s'.heap.get? f = some (lamOb (X.env.qual ++ "<lambda>") params body scope (cloFrom X.env.cells scope.names []) T doc pm c' ctv) → H1 f = none → f ∉ frs X.stack → s'.heap.get? T = some (PySem.W.kdv_tup [.int n tk]) → H1 T = none → T ∉ frs X.stack →
      H1 c' = some (LamX.CodeO c' (X.env.qual ++ "<lambda>")) → s.heap.objs.size ≤ f → s.heap.objs.size ≤ T → T ≠ f → Q (.ref f) s') :
    wpAny (model X.prog X.w) X.A (eval (.Lambda params body scope pos) X.env) Q E s := by
  refine PySem.W.kdv_lam (by rw [hdf]; rfl) hkd ?_
  rw [hdf]
  refine PySem.W.kdv_all1 (wpAny_Constant_int (PySem.W.kdv_all0 ?_))
  have It := I.tok (s.toks + 1)
  have hsz0 : s.heap.objs.size = ({ s with toks := s.toks + 1 } : Shared).heap.objs.size := rfl
  rw [hsz0] at h
  generalize hs0 : ({ s with toks := s.toks + 1 } : Shared) = s0 at It h ⊢
  clear I
  have I := It
  clear It
  rw [makeFunction_eq, hko]
  show wpAny _ _ (do
    let dV ← newTextTuple [.int n s.toks]
    makeTail "<lambda>" (X.env.qual ++ "<lambda>") params (.expr body) scope X.env dV .none none pos pos.line) Q E s0
  refine wpAny_bind (wpAny_newTextTuple ?_)
  have far : ∀ f, s0.heap.objs.size ≤ f → f ∉ frs X.stack := fun f hf z => by
    rcases List.mem_cons.mp (I.stkSub _ z) with e | e
    · exact absurd (Nat.lt_of_lt_of_le (e ▸ I.lt) hf) (Nat.lt_irrefl _)
    · exact I.nofs hf e
  obtain ⟨T, hT⟩ : ∃ T, T = s0.heap.objs.size := ⟨_, rfl⟩
  have hTn : H T = none := by rw [hT]; exact I.hok.fresh (Nat.le_refl _)
  have hTf : T ∉ frs X.stack := by rw [hT]; exact far _ (Nat.le_refl _)
  have hTP : T ≠ P := fun z => by rw [← z, hTn] at hP; cases hP
  have I2 : Inv X pins σ H { s0 with heap := s0.heap.push (PySem.W.kdv_tup [.int n s.toks]) } := I.kept fun b ob eb => Heap.get?_push_of_some _ eb
  have hT2 : (s0.heap.push (PySem.W.kdv_tup [.int n s.toks])).get? T = some (PySem.W.kdv_tup [.int n s.toks]) := by rw [hT]; exact Heap.get?_push_size _ rfl
  rw [← hT]
  have big0 : s0.heap.objs.size ≤ (s0.heap.push (PySem.W.kdv_tup [.int n s.toks])).objs.size := by rw [Heap.size_push]; omega
  generalize hs2 : ({ s0 with heap := s0.heap.push (PySem.W.kdv_tup [.int n s.toks]) } : Shared) = s2 at I2 ⊢
  have hT3 : s2.heap.get? T = some (PySem.W.kdv_tup [.int n s.toks]) := by rw [← hs2]; exact hT2
  have big2 : s0.heap.objs.size ≤ s2.heap.objs.size := by rw [← hs2]; exact big0
  have bB : s2.heap.BuiltinsAt X.mg P := TB.bm.keeps I2.bk
  have hPs : s2.heap.get? P = some { cls := .none, data := .fields ps } := I2.hok P _ hP
  cases hca : codeAmong pos ps.toList with
  | none =>
    refine PySem.W.kdv_makeTail (mg := X.mg) (c := c) (P := P) (ps := ps) (closure_ok hfree) I2.ok.glob (I2.mod.glob.keeps I2.bk) hcode (TB.code.keeps I2.bk) hPs ht hca TB.gP bB fun c1 ct1 doc hh tok hext hge hlt hrec htab => ?_
    obtain ⟨c2, oc, vs, tt, ec, hoc, hdat, hnam⟩ := hrec
    cases ec
    have big : s2.heap.objs.size ≤ hh.objs.size := Nat.le_trans hge (Nat.le_of_lt hlt)
    have nc : H c1 = none := I2.hok.fresh hge
    have J := LamX.inv_table (t' := tok) (more := #[rawInt pos.line, rawInt pos.col, .ref c1]) (h' := hh.push (lamOb (X.env.qual ++ "<lambda>") params body scope (cloFrom X.env.cells scope.names []) T doc ((X.mg "__name__").getD .none) c1 ct1)) (q := X.env.qual ++ "<lambda>") I2 hP
      (fun b ob hb eb => Heap.get?_push_of_some _ (hext b ob hb eb)) (Heap.get?_push_of_some _ htab) hge ⟨oc, vs, tt, Heap.get?_push_of_some _ hoc, hdat, hnam⟩
    have el : (ps ++ #[rawInt pos.line, rawInt pos.col, .ref c1]).toList = ps.toList ++ [rawInt pos.line, rawInt pos.col, .ref c1] := by simp
    have hTc : T ≠ c1 := Nat.ne_of_lt (Nat.lt_of_lt_of_le (Heap.lt_size hT3) hge)
    refine h hh.objs.size c1 T s.toks doc ((X.mg "__name__").getD .none) ct1 _ _ J (.inr ⟨_, nc, by rw [el]; exact PySem.TriplesOk_snoc _ _ _ _ ht, fun p' cv hcv => ?_, rfl⟩) (Heap.get?_push_size _ rfl) ?_ (far _ (Nat.le_trans big2 big)) (Heap.get?_push_of_some _ (hext T _ hTP hT3)) (by rw [upd_ne hTc, upd_ne hTP]; exact hTn) hTf upd_same (Nat.le_trans big2 big) (by rw [hT]; exact Nat.le_refl _) (Nat.ne_of_lt (Nat.lt_of_lt_of_le (Heap.lt_size hT3) big))
    · rw [el] at hcv
      exact LamX.among_app _ ht hcv
    · rw [upd_ne (Nat.ne_of_gt hlt), upd_ne (Nat.ne_of_gt (Nat.lt_of_lt_of_le (Heap.lt_size hPs) big))]
      exact I2.hok.fresh big
  | some cv =>
    obtain ⟨c1, ec, hco, hpc⟩ := ha pos cv hca
    subst ec
    refine PySem.W.kdv_makeTailHit (mg := X.mg) (c := c) (P := P) (ps := ps) (closure_ok hfree) I2.ok.glob (I2.mod.glob.keeps I2.bk) hcode (TB.code.keeps I2.bk) hPs ht hca bB fun ct1 doc hh tok hext big => ?_
    have J : Inv X pins σ H { s2 with heap := hh.push (lamOb (X.env.qual ++ "<lambda>") params body scope (cloFrom X.env.cells scope.names []) T doc ((X.mg "__name__").getD .none) c1 ct1), toks := tok } := I2.kept fun b ob eb => Heap.get?_push_of_some _ (hext b ob eb)
    exact h hh.objs.size c1 T s.toks doc ((X.mg "__name__").getD .none) ct1 H _ J (.inl ⟨rfl, hpc⟩) (Heap.get?_push_size _ rfl) (I2.hok.fresh big) (far _ (Nat.le_trans big2 big)) (Heap.get?_push_of_some _ (hext T _ hT3)) hTn hTf hco (Nat.le_trans big2 big) (by rw [hT]; exact Nat.le_refl _) (Nat.ne_of_lt (Nat.lt_of_lt_of_le (Heap.lt_size hT3) big))
end
/-- its names: parameters that no slot bears, captured ones, globals -/
structure LamD (N : List Str) (sc scope : Scope) (a : Str) : Prop where
  kind : scope.kind = .function
  co : scope.isCoroutine = false
  gen : scope.isGenerator = false
  nocell : ∀ y ∈ scope.names, y.2 ≠ .cell
  own : ∀ y ∈ scope.names, y.2 = .local → y.1 ∉ N
  free : ∀ y ∈ scope.names, y.2 = .free → sc.names.lookup y.1 = some .cell ∨ sc.names.lookup y.1 = some .free
  par : scope.names.lookup a = some .local
def lamDB (N : List Str) (sc scope : Scope) (a : Str) : Bool :=
  decide (scope.kind = .function) && (!scope.isCoroutine && (!scope.isGenerator && (decide (scope.names.lookup a = some .local) &&
    scope.names.all fun y => !decide (y.2 = .cell) && ((!decide (y.2 = .local) || !decide (y.1 ∈ N)) && (!decide (y.2 = .free) || (decide (sc.names.lookup y.1 = some .cell) || decide (sc.names.lookup y.1 = some .free)))))))
theorem lamD_by {N : List Str} {sc scope : Scope} {a : Str} (h : lamDB N sc scope a = true) : LamD N sc scope a := by
  unfold lamDB at h
  simp only [Bool.and_eq_true, Bool.or_eq_true, Bool.not_eq_true', decide_eq_true_eq, decide_eq_false_iff_not, List.all_eq_true] at h
  obtain ⟨g1, g2, g3, g4, g5⟩ := h
  exact ⟨g1, g2, g3, fun y hy => (g5 y hy).1, fun y hy e => (g5 y hy).2.1.resolve_left fun z => z e, fun y hy e => (g5 y hy).2.2.resolve_left fun z => z e, g4⟩
theorem LamD.has {X : Cx} {scope : Scope} {a : Str} (L : LamD X.N X.env.scope scope a) (ok : X.Ok) : ∀ y ∈ scope.names, y.2 = .free → ∃ c, X.env.cells.lookup y.1 = some c := fun y hy e => ok.has y.1 (L.free y hy e)
section
variable {X : Cx} {pins : List (Addr × Obj)} {σ : L2.St} {H HZ : Hp} {s s1 : Shared}
theorem lam_enterD {A : Around} {outer : List Env} {E : XK} {scope : Scope} {a : Str} {u : Value} {f c' : Addr} {h₁ : Heap} {tk : Nat} (I : Inv X pins σ H s) (L : LamD X.N X.env.scope scope a) (e0 : Env0 X.prog X.w X.K X.mg X.base A outer s1 HZ) (hd : A.handled = none)
    (un : Un (frs X.stack) [] H HZ s.heap s1.heap) (hns : h₁.Ns s1.heap.objs.size fun y => [(a, u)].reverse.lookup y) (kp : ∀ b o, s1.heap.get? b = some o → h₁.get? b = some o) :
    Inv (LamX.lamCx X A outer s1 HZ E scope f c') [] σ HZ { s1 with heap := h₁, toks := tk } := by
  have fre := L.has I.ok
  have cm : ∀ {y d}, (cloFrom X.env.cells scope.names []).lookup y = some d → X.env.cells.lookup y = some d := fun {y d} e => by
    rcases cloFrom_mem (PySem.mem_of_lookup e) with hm | ⟨h1, h2⟩
    · exact nomatch hm
    · obtain ⟨c1, hc⟩ := fre _ h1 rfl
      have hc : X.env.cells.lookup y = some c1 := hc
      rw [hc]
      rw [hc] at h2
      exact congrArg some h2.symm
  have lk : ∀ {y}, scope.names.lookup y = some .free → ∃ d, (cloFrom X.env.cells scope.names []).lookup y = some d := fun {y} hl =>
    mem_lookup (cloFrom_has (cells := X.env.cells) (acc := []) (show (y, NameKind.free) ∈ scope.names from PySem.mem_of_lookup hl))
  have ck : ∀ {d : Addr} {v : Option Value}, H d = none → s.heap.IsCell d v → h₁.IsCell d v := fun {d v} n ⟨o, ho, hdd⟩ => by
    obtain ⟨sl, q⟩ := un.any ho n (by simp)
    exact ⟨_, kp _ _ q, hdd⟩
  have no : ∀ b : Addr, b ∉ (LamX.lamCx X A outer s1 HZ E scope f c').ex := fun b z => nomatch (show b ∈ ([] : List Addr) from z)
  refine ⟨⟨e0.mod, L.kind, rfl, rfl, Nat.le_refl _, fun y z d e1 e2 => I.ok.inj y z d (cm e1) (cm e2), fun y hy => ?_, fun y d z _ => (nomatch (show false = true from z)), fun _ => hd, Around.frames_deeper e0.frames, .inr ⟨rfl, rfl⟩, fun b z => absurd z (no b), e0.bs, e0.bsz, fun b _ _ => no b,
      fun b z => absurd z (no b), e0.funs, e0.frf⟩,
    rfl, e0.bare, Un.kept kp, ⟨_, hns, fun i y v e1 e2 e3 => ?_⟩, fun y d e => ?_, e0.hok.fresh (Nat.le_refl _), fun y d e => ?_, fun q hq => (nomatch (show q ∈ ([] : List (Addr × Obj)) ++ [] from hq)), e0.hok.kept kp, I.len⟩
  · rcases (show scope.names.lookup y = some .cell ∨ scope.names.lookup y = some .free from hy) with hy | hy
    · exact absurd rfl (L.nocell _ (PySem.mem_of_lookup hy))
    · exact lk hy
  · rcases (show Vis scope y from e3) with k | k | k
    · exact absurd (List.mem_of_getElem? (show X.N[i]? = some y from e1)) (L.own _ (PySem.mem_of_lookup k) rfl)
    · exact absurd rfl (L.nocell _ (PySem.mem_of_lookup k))
    · obtain ⟨m, hn, hl⟩ := I.loc
      obtain ⟨w', rr, q⟩ := hl i y v e1 e2 ((L.free _ (PySem.mem_of_lookup k) rfl).elim (fun k => .inr (.inl k)) fun k => .inr (.inr k))
      obtain ⟨c2, h2⟩ := lk k
      refine ⟨w', rr, .inr ⟨.inr k, c2, h2, ?_⟩⟩
      rcases q with ⟨k', _⟩ | ⟨_, c3, e', z⟩
      · rcases L.free _ (PySem.mem_of_lookup k) rfl with k2 | k2
        · exact nomatch (show some NameKind.local = some NameKind.cell from (show X.env.scope.names.lookup y = _ from k') ▸ k2)
        · exact nomatch (show some NameKind.local = some NameKind.free from (show X.env.scope.names.lookup y = _ from k') ▸ k2)
      · rw [cm h2] at e'
        cases e'
        exact ck (I.freeC y _ (cm h2)) z
  · obtain ⟨w', z⟩ := I.cell y d (cm e)
    exact ⟨w', ck (I.freeC y d (cm e)) z⟩
  · obtain ⟨v, o, ho, _⟩ := I.cell y d (cm e)
    exact un.free d o ho (I.freeC y d (cm e)) (by simp)
end
mutual
def nkB : PyData → Bool
  | .int _ => true
  | .bool _ => true
  | .str _ => true
  | .tuple ds => nkBs ds
  | .none => true
  | _ => false
def nkBs : List PyData → Bool
  | [] => true
  | d :: ds => nkB d && nkBs ds
end
/-- a key that is there, or a new one -/
def putN (xs : List KdE) (k : NestedKey) (p : Addr) (v : V) : List KdE := if (xs.any fun x => decide (x.1 = k)) = true then xs.map (fun x => if x.1 = k then (x.1, x.2.1, v) else x) else xs ++ [(k, p, v)]
def valN (xs : List KdE) (k : NestedKey) : Option V := (xs.find? fun x => decide (x.1 = k)).map (·.2.2)
def KRep (K : PySem.W.Frag) (F : Hp) : List (D × D) → List KdE → Prop
  | [], us => us = []
  | p :: acc, us => ∃ u us', us = u :: us' ∧ u.1 = nkD p.1 ∧ Rep K F p.1 (.ref u.2.1) ∧ Rep K F p.2 u.2.2 ∧ KRep K F acc us'
def kdD (w : World) (acc : List (D × D)) : D := .kd w (acc.map (·.1)) (acc.map (·.2))
structure KyD (d : D) : Prop where
  ok : ∃ n, okD n d
  nb : nkB (toP d) = true
  dp : (nkD d).depth ≤ 8
section
variable {K : PySem.W.Frag} {F F' H : Hp} {w : World}
theorem KRep.mono (e : Ex F F') : ∀ {acc : List (D × D)} {us : List KdE}, KRep K F acc us → KRep K F' acc us
  | [], _, h => h
  | p :: acc, _, ⟨u, us', h1, h2, h3, h4, h5⟩ => ⟨u, us', h1, h2, Rep.mono e _ _ h3, Rep.mono e _ _ h4, h5.mono e⟩
theorem KRep.length : ∀ {acc : List (D × D)} {us : List KdE}, KRep K F acc us → us.length = acc.length
  | [], _, h => by rw [show _ = [] from h]; rfl
  | p :: acc, _, ⟨u, us', h1, _, _, _, h5⟩ => by rw [h1, List.length_cons, List.length_cons, h5.length]
theorem KRep.own : ∀ {acc : List (D × D)} {us : List KdE}, KRep K F acc us → us.map (·.1) = nkDs (acc.map (·.1)) ∧ RepL K F (acc.map (·.1)) (us.map fun e => .ref e.2.1) ∧ RepL K F (acc.map (·.2)) (us.map (·.2.2))
  | [], _, h => by rw [show _ = [] from h]; exact ⟨rfl, rfl, rfl⟩
  | p :: acc, _, ⟨u, us', h1, h2, h3, h4, h5⟩ => by
    subst h1
    obtain ⟨z1, z2, z3⟩ := h5.own
    refine ⟨?_, ⟨_, _, rfl, h3, z2⟩, ⟨_, _, rfl, h4, z3⟩⟩
    show u.1 :: us'.map (·.1) = nkD p.1 :: nkDs (acc.map (·.1))
    rw [h2, z1]
theorem own_kdD {p : Addr} {acc : List (D × D)} {us : List KdE} (h : KRep K F acc us) (hp : H p = some (KdO w p us)) : Own K F H p (kdD w acc) := by
  obtain ⟨z1, z2, z3⟩ := h.own
  exact ⟨us, hp, z1, z2, z3⟩
end
def putKD (acc : List (D × D)) (k d : D) : List (D × D) := if (acc.any fun kv => decide (nkD kv.1 = nkD k)) = true then acc.map (fun kv => if nkD kv.1 = nkD k then (kv.1, d) else kv) else acc ++ [(k, d)]
def valKD (acc : List (D × D)) (k : D) : Option D := (acc.find? fun kv => decide (nkD kv.1 = nkD k)).map (·.2)
section
variable {K : PySem.W.Frag} {F F' H : Hp} {w : World} {k d : D} {p : Addr} {v : V}
theorem KRep.any (k : D) : ∀ {acc : List (D × D)} {us : List KdE}, KRep K F acc us → (us.any fun x => decide (x.1 = nkD k)) = acc.any fun kv => decide (nkD kv.1 = nkD k)
  | [], _, h => by rw [show _ = [] from h]; rfl
  | q :: acc, _, ⟨u, us', h1, h2, _, _, h5⟩ => by subst h1; rw [List.any_cons, List.any_cons, h5.any k, h2]
theorem KRep.over (hv : Rep K F d v) : ∀ {acc : List (D × D)} {us : List KdE}, KRep K F acc us → KRep K F (acc.map fun kv => if nkD kv.1 = nkD k then (kv.1, d) else kv) (us.map fun x => if x.1 = nkD k then (x.1, x.2.1, v) else x)
  | [], _, h => by rw [show _ = [] from h]; rfl
  | q :: acc, _, ⟨u, us', h1, h2, h3, h4, h5⟩ => by
    subst h1
    refine ⟨_, _, List.map_cons, ?_, ?_, ?_, h5.over hv⟩ <;> dsimp only <;> rw [h2] <;> by_cases z : nkD q.1 = nkD k
    · rw [if_pos z, if_pos z]
    · rw [if_neg z, if_neg z]; exact h2
    · rw [if_pos z, if_pos z]; exact h3
    · rw [if_neg z, if_neg z]; exact h3
    · rw [if_pos z, if_pos z]; exact hv
    · rw [if_neg z, if_neg z]; exact h4
theorem KRep.append : ∀ {acc bcc : List (D × D)} {us ws : List KdE}, KRep K F acc us → KRep K F bcc ws → KRep K F (acc ++ bcc) (us ++ ws)
  | [], _, _, _, h, h' => by rw [show _ = [] from h]; exact h'
  | q :: acc, _, _, _, ⟨u, us', h1, h2, h3, h4, h5⟩, h' => by subst h1; exact ⟨u, us' ++ _, rfl, h2, h3, h4, h5.append h'⟩
theorem KRep.put {acc : List (D × D)} {us : List KdE} (h : KRep K F acc us) (hk : Rep K F k (.ref p)) (hv : Rep K F d v) : KRep K F (putKD acc k d) (putN us (nkD k) p v) := by
  unfold putKD putN
  rw [h.any k]
  by_cases z : (acc.any fun kv => decide (nkD kv.1 = nkD k)) = true
  · rw [if_pos z, if_pos z]; exact h.over hv
  · rw [if_neg z, if_neg z]; exact h.append ⟨(nkD k, p, v), [], rfl, rfl, hk, hv, rfl⟩
theorem KRep.val (k : D) : ∀ {acc : List (D × D)} {us : List KdE}, KRep K F acc us → (valKD acc k = none ∧ valN us (nkD k) = none) ∨ ∃ d v, valKD acc k = some d ∧ valN us (nkD k) = some v ∧ Rep K F d v
  | [], _, h => by rw [show _ = [] from h]; exact .inl ⟨rfl, rfl⟩
  | q :: acc, _, ⟨u, us', h1, h2, h3, h4, h5⟩ => by
    subst h1
    by_cases z : nkD q.1 = nkD k
    · right
      refine ⟨q.2, u.2.2, ?_, ?_, h4⟩
      · unfold valKD; rw [List.find?_cons_of_pos (by simpa using z)]; rfl
      · unfold valN; rw [List.find?_cons_of_pos (by simpa [h2] using z)]; rfl
    · have ih := KRep.val k h5
      unfold valKD valN at ih ⊢
      rw [List.find?_cons_of_neg (by simpa using z), List.find?_cons_of_neg (by simpa [h2] using z)]
      exact ih
end
open Out (Rt)
def KR (K : PySem.W.Frag) (F : Hp) (acc : List (D × D)) (us : List KdE) : Prop := KRep K F acc us ∧ ∀ p ∈ acc, KyD p.1
theorem KR.mono {K : PySem.W.Frag} {F F' : Hp} (e : Ex F F') {acc : List (D × D)} {us : List KdE} (h : KR K F acc us) : KR K F' acc us := ⟨h.1.mono e, h.2⟩
theorem KR.length {K : PySem.W.Frag} {F : Hp} {acc : List (D × D)} {us : List KdE} (h : KR K F acc us) : us.length = acc.length := h.1.length
theorem putKD_ky {acc : List (D × D)} {k d : D} (h : ∀ p ∈ acc, KyD p.1) (hk : KyD k) : ∀ p ∈ putKD acc k d, KyD p.1 := fun p hp => by
  unfold putKD at hp
  split at hp
  · obtain ⟨q, hq, rfl⟩ := List.mem_map.mp hp
    split
    · exact h q hq
    · exact h q hq
  · rcases List.mem_append.mp hp with z | z
    · exact h p z
    · cases List.mem_singleton.mp z; exact hk
theorem KR.put {K : PySem.W.Frag} {F : Hp} {acc : List (D × D)} {us : List KdE} {k d : D} {p : Addr} {v : V} (h : KR K F acc us) (hk : KyD k) (h1 : Rep K F k (.ref p)) (h2 : Rep K F d v) : KR K F (putKD acc k d) (putN us (nkD k) p v) := ⟨h.1.put h1 h2, putKD_ky h.2 hk⟩
theorem KR.own {K : PySem.W.Frag} {F H : Hp} {w : World} {p : Addr} {acc : List (D × D)} {us : List KdE} (h : KR K F acc us) (hp : H p = some (KdO w p us)) : Own K F H p (kdD w acc) := own_kdD h.1 hp
open Out (Rt)
open Out (Rt)
open Out (Rt)
open Out (Rt)
open Out (Rt)
theorem Wk.trans {a b c : Env2} (w : Wk a b) : Wk b c → Wk a c := by
  induction w generalizing c with
  | nil => intro v; cases v; exact .nil
  | no _ ih => intro v; cases v with
    | no v => exact .no (ih v)
    | eq v => exact .no (ih v)
  | eq _ ih => intro v; cases v with
    | no v => exact .no (ih v)
    | eq v => exact .eq (ih v)
open Out (Rt)
open Out (Rt)
open Out (Rt)
open Out (Rt)
section
variable {X : Cy} {α : Type}
theorem repL_flat {K : PySem.W.Frag} {F : Hp} {ds : List D} {vs : List V} (h : RepL K F ds vs) : ∀ n, RepL K F (List.replicate n ds).flatten (List.replicate n vs).flatten
  | 0 => rfl
  | n + 1 => by
    rw [List.replicate_succ, List.flatten_cons, List.replicate_succ, List.flatten_cons]
    exact h.append (repL_flat h n)
theorem flat_map {α β : Type} (f : α → β) (xs : List α) : ∀ n, ((List.replicate n xs).flatten).map f = (List.replicate n (xs.map f)).flatten
  | 0 => rfl
  | n + 1 => by rw [List.replicate_succ, List.flatten_cons, List.map_append, flat_map f xs n, List.replicate_succ, List.flatten_cons]
end
open Out (Rt)
section
variable {X : Cy} {e a b c o : Expr} {es : List Expr} {st : Stmt} {sts rest : List Stmt} {r : Env2} {G : GD} {pos apos p0 : Pos} {D0 : EndsD}
theorem zip_lookup {K : PySem.W.Frag} {F : Hp} : ∀ {ns : List Str} {ds : List D} {vs : List V}, ns.length = ds.length → RepL K F ds vs → ∀ {f : Str} {d : D}, (ns.zip ds).lookup f = some d → ∃ v, (ns.zip vs).lookup f = some v ∧ Rep K F d v
  | [], ds, vs, _, _, f, d, h => by simp at h
  | n :: ns, [], vs, hl, _, _, _, _ => nomatch hl
  | n :: ns, d0 :: ds, vs, hl, ⟨v, r, e, h1, h2⟩, f, d, h => by
    subst e
    rw [List.zip_cons_cons, List.lookup_cons] at h ⊢
    by_cases hf : (f == n) = true
    · rw [hf] at h ⊢; cases h; exact ⟨v, rfl, h1⟩
    · rw [Bool.not_eq_true] at hf; rw [hf] at h ⊢
      exact zip_lookup (Nat.succ.inj hl) h2 h
theorem zip_none : ∀ {ns : List Str} {vs : List V} {f : Str}, (ns.all fun n => !(f == n)) = true → (ns.zip vs).lookup f = none
  | [], _, _, _ => by simp
  | n :: ns, [], _, _ => by simp
  | n :: ns, v :: vs, f, h => by
    rw [List.all_cons, Bool.and_eq_true, Bool.not_eq_true'] at h
    rw [List.zip_cons_cons, List.lookup_cons, h.1]
    exact zip_none h.2
/-- attributes with a new value of one -/
def putA (f : Str) : List Str → List Str
  | [] => [f]
  | g :: r => if g = f then g :: r else g :: putA f r
def putAD (f : Str) (d : D) : List Str → List D → List D
  | g :: r, x :: ds => if g = f then d :: ds else x :: putAD f d r ds
  | _, _ => [d]
theorem putF_zip {K : PySem.W.Frag} {F : Hp} {f : Str} {d : D} {v : V} (hv : Rep K F d v) : ∀ {ns : List Str} {ds : List D} {vs : List V}, ns.length = ds.length → RepL K F ds vs → ∃ us, putF f v (ns.zip vs) = (putA f ns).zip us ∧ (putA f ns).length = (putAD f d ns ds).length ∧ RepL K F (putAD f d ns ds) us
  | [], [], vs, _, h => by cases (show vs = [] from h); exact ⟨[v], rfl, rfl, v, [], rfl, hv, rfl⟩
  | [], _ :: _, _, hl, _ => nomatch hl
  | _ :: _, [], _, hl, _ => nomatch hl
  | n :: ns, d0 :: ds, vs, hl, ⟨v0, r, e, h1, h2⟩ => by
    subst e
    rw [List.zip_cons_cons]
    unfold putF putA putAD
    by_cases hf : n = f
    · rw [if_pos hf, if_pos hf, if_pos hf]
      exact ⟨v :: r, rfl, hl, v, r, rfl, hv, h2⟩
    · rw [if_neg hf, if_neg hf, if_neg hf]
      obtain ⟨us, k1, k2, k3⟩ := putF_zip hv (Nat.succ.inj hl) h2
      exact ⟨v0 :: us, by rw [k1]; rfl, by rw [List.length_cons, List.length_cons, k2], v0, us, rfl, h1, k3⟩
theorem objs_at {K : PySem.W.Frag} {F0 T F H : Hp} {σ : L2.St} (S : Sta K F0 T F G H r σ) {p C : Addr} {ns : List Str} {ds : List D} (h : G p = some (.obj C ns ds)) : ∃ dx vs, H p = some (.ins C dx (ns.zip vs)) ∧ ns.length = ds.length ∧ RepL K F ds vs := S.bas.gh p _ h
/-- self.f -/
theorem we_fldO {f : Str} {Q : Res → Env2 → GD → Prop} (h : WE X e r G fun x r1 G1 => ∃ p C ns ds d, x = .sh (.adr p) ∧ G1 p = some (.obj C ns ds) ∧ Cls X.K C ∧ NoAttr X.K C f ∧ (ns.zip ds).lookup f = some d ∧ Q (.sh d) r1 G1)
    (hb : attributeBase e f X.env (eval e X.env) = eval e X.env := by rfl) : WE X (.Attribute e f pos) r G Q := fun F0 T F H σ lk S =>
  Run.of (pe_fld peR hb) ((h F0 T F H σ lk S).mono fun v H1 ⟨x, r1, G1, F1, e1, S1, k1, p, C, ns, ds, d, hx, hG, hc, hn, hl, q⟩ => by
    subst hx
    obtain ⟨dx, vs, k2, k3, k4⟩ := objs_at S1 hG
    obtain ⟨w, m1, m2⟩ := zip_lookup (ns := ns) (ds := ds) (vs := vs) k3 k4 hl
    exact ⟨p, C, dx, _, w, k1, k2, hc, hn, m1, .sh d, r1, G1, F1, e1, S1, m2, q⟩)
/-- self.f = e -/
theorem ws_fldO {f : Str} (h : WE X e r G fun y r1 G1 => ∃ d r2, fz r1 y = some (d, r2) ∧ WE X o r2 G1 fun x r3 G3 => ∃ p C ns ds, x = .sh (.adr p) ∧ G3 p = some (.obj C ns ds) ∧ Cls X.K C ∧ NoAttr X.K C f ∧ ns.length < 1000 ∧ D0.nx r3 (updG G3 p (.obj C (putA f ns) (putAD f d ns ds))))
    (hs : swapsWith e (some (.Attribute o f apos)) pos.line X.env = pure false := by rfl) : WS X (.Assign [.Attribute o f apos] e pos) r G D0 := fun F0 T F H σ lk S =>
  RunS.of (ps_fld peR peR hs) ((h F0 T F H σ lk S).mono fun v H1 ⟨y, r1, G1, F1, e1, S1, k1, d, r2, q1, h2⟩ => by
    obtain ⟨F2, e2, S2, rp⟩ := S1.fz k1 q1
    refine (h2 F0 T F2 H1 σ lk S2).mono fun u H2 ⟨x, r3, G3, F3, e3, S3, k3, p, C, ns, ds, hx, hG, hc, hn, hl, q⟩ => ?_
    subst hx
    obtain ⟨dx, vs, m2, m3, m4⟩ := objs_at S3 hG
    obtain ⟨us, n1, n2, n3⟩ := putF_zip (f := f) (Rep.mono e3 _ _ rp) m3 m4
    refine ⟨p, C, dx, _, k3, m2, hc, hn, by rw [List.length_zip]; omega, r3, _, F3, ?_, q⟩
    rw [n1]
    exact S3.gput hG ⟨dx, us, upd_same, n2, n3⟩)
def tMethOS (C : Addr) (m : Str) (sp : Sp) (E : L2.St → XK) (ta : TE) (t : TA) : TE := fun σ H Q => ta σ H fun x H1 => ∃ a dx fs, x = .ref a ∧ H1 a = some (.ins C dx fs) ∧ fs.lookup m = none ∧ t σ H1 fun ws H2 => sp (x :: ws) H2 Q (E σ)
theorem pe_methOS {X : Cx} {m : Str} {ta : TE} {t : TA} {CX : CXT} {k : Nat} {C g : Addr} {sp : Sp} {E : L2.St → XK} {pl : Sem Bool} (he : PE X o ta) (c : Cls X.K C) (hm : Meth X.K C m g) (F : FnR X.prog X.w X.K X.mg X.base CX k g sp) (hr : Room k X.A) (hx : ∀ σ, PassesAt CX X σ (E σ)) (ha : PA X (e :: es) t)
    (hst : starEach (e :: es) X.env = (false, eval e X.env) :: starEach es X.env := by rfl) (hpl : (backTo pos (starEach es X.env)).any (·.1) = false := by rfl)
    (ht : eval (.Call (.Attribute o m apos) (e :: es) [] pos) X.env = (do
      let ov ← eval o X.env
      standAt apos.atName
      let (f, first) ← holding [ov] (getMethod ov m pl)
      callWith pos f first (backTo pos (starEach (e :: es) X.env)) (backToKw pos (keywordEach [] X.env))) := by rfl) :
    PE X (.Call (.Attribute o m apos) (e :: es) [] pos) (tMethOS C m sp E ta t) := by
  refine ⟨fun pins s σ H Q I h => ?_⟩
  refine PySem.W.methodCall_KW (pl := pl) (thn (he.run pins s σ H _ I h) fun u s1 ⟨x, H1, I1, rx, a, dx, fs, ex, ea, l, q⟩ => ?_) ht
  subst ex
  obtain rfl : u = Value.ref a := rx
  refine getmeth_ok I1 ea c hm l ?_
  refine PySem.W.callWith_K (first := [.ref a]) (h₀ := X.base) I.ok.mod.kin hm.kp (thn (ha.run pos pins s1 σ H1 _ I1 q) fun us s2 ⟨ws, H2, I2, r, q2⟩ => ⟨I2.kIn, ?_⟩) hst hpl
  exact run_fnRS (us := .ref a :: us) (vs := .ref a :: ws) F hr (hx σ) I2 (.cons rfl r) q2
theorem pe_methO0S {X : Cx} {m : Str} {ta : TE} {CX : CXT} {k : Nat} {C g : Addr} {sp : Sp} {E : L2.St → XK} {pl : Sem Bool} (he : PE X o ta) (c : Cls X.K C) (hm : Meth X.K C m g) (F : FnR X.prog X.w X.K X.mg X.base CX k g sp) (hr : Room k X.A) (hx : ∀ σ, PassesAt CX X σ (E σ))
    (ht : eval (.Call (.Attribute o m apos) [] [] pos) X.env = (do
      let ov ← eval o X.env
      standAt apos.atName
      let (f, first) ← holding [ov] (getMethod ov m pl)
      callWith pos f first (backTo pos (starEach [] X.env)) (backToKw pos (keywordEach [] X.env))) := by rfl) :
    PE X (.Call (.Attribute o m apos) [] [] pos) (tMethOS C m sp E ta tNil) := by
  refine ⟨fun pins s σ H Q I h => ?_⟩
  refine PySem.W.methodCall_KW (pl := pl) (thn (he.run pins s σ H _ I h) fun u s1 ⟨x, H1, I1, rx, a, dx, fs, ex, ea, l, q⟩ => ?_) ht
  subst ex
  obtain rfl : u = Value.ref a := rx
  refine getmeth_ok I1 ea c hm l ?_
  exact PySem.W.callWith_K0 (first := [.ref a]) I1.kIn hm.kp (run_fnRS (us := [.ref a]) (vs := [.ref a]) F hr (hx σ) I1 (.cons rfl .nil) q)
theorem we_methO0 {m : Str} {C : Addr} {k j : Nat} {ps : List Str} {sp : FSp} {pl : Sem Bool} {Q : Res → Env2 → GD → Prop} (tk : X.Tk) (c : Cls X.K C) (p : MethD X.prog X.w X.K X.mg X.base C m k ps sp) (hr : Room j X.A) (h : WE X o r G fun x r1 G1 => ∃ q ns ds, x = .sh (.adr q) ∧ G1 q = some (.obj C ns ds) ∧ (ns.all fun n => !(m == n)) = true ∧ sp [.adr q] G1 (fun z G2 => Q z r1 G2) (fun x G2 => X.QX x r1 G2)) (hj : k ≤ j := by omega)
    (ht : eval (.Call (.Attribute o m apos) [] [] pos) X.env = (do
      let ov ← eval o X.env
      standAt apos.atName
      let (f, first) ← holding [ov] (getMethod ov m pl)
      callWith pos f first (backTo pos (starEach [] X.env)) (backToKw pos (keywordEach [] X.env))) := by rfl) : WE X (.Call (.Attribute o m apos) [] [] pos) r G Q := fun F0 T F H σ lk S => by
  obtain ⟨g, fd, h1, h2, h3⟩ := p.ex
  refine Run.of (pe_methO0S (pl := pl) peR c h1 (fnr h2 h3) (hr.mono hj) (fun σ => passAt tk σ) ht) ((h F0 T F H σ lk S).mono fun v H1 ⟨x, r1, G1, F1, e1, S1, k1, q, ns, ds, hx, hG, hn, q2⟩ => ?_)
  subst hx
  obtain ⟨dx, vs, m2, m3, m4⟩ := objs_at S1 hG
  exact ⟨q, dx, _, k1, m2, zip_none hn, spD_of lk S1 e1 (.one k1) q2⟩
theorem we_methO {m : Str} {C : Addr} {k j : Nat} {ps : List Str} {sp : FSp} {pl : Sem Bool} {Q : Res → Env2 → GD → Prop} (tk : X.Tk) (c : Cls X.K C) (p : MethD X.prog X.w X.K X.mg X.base C m k ps sp) (hr : Room j X.A) (h : WE X o r G fun x r1 G1 => ∃ q ns ds, x = .sh (.adr q) ∧ G1 q = some (.obj C ns ds) ∧ (ns.all fun n => !(m == n)) = true ∧ WA X (e :: es) r1 G1 fun as r2 G2 => sp (.adr q :: as) G2 (fun z G3 => Q z r2 G3) (fun x G3 => X.QX x r2 G3)) (hj : k ≤ j := by omega)
    (hst : starEach (e :: es) X.env = (false, eval e X.env) :: starEach es X.env := by rfl) (hpl : (backTo pos (starEach es X.env)).any (·.1) = false := by rfl)
    (ht : eval (.Call (.Attribute o m apos) (e :: es) [] pos) X.env = (do
      let ov ← eval o X.env
      standAt apos.atName
      let (f, first) ← holding [ov] (getMethod ov m pl)
      callWith pos f first (backTo pos (starEach (e :: es) X.env)) (backToKw pos (keywordEach [] X.env))) := by rfl) : WE X (.Call (.Attribute o m apos) (e :: es) [] pos) r G Q := fun F0 T F H σ lk S => by
  obtain ⟨g, fd, h1, h2, h3⟩ := p.ex
  refine Run.of (pe_methOS (pl := pl) peR c h1 (fnr h2 h3) (hr.mono hj) (fun σ => passAt tk σ) paR hst hpl ht) ((h F0 T F H σ lk S).mono fun v H1 ⟨x, r1, G1, F1, e1, S1, k1, q, ns, ds, hx, hG, hn, h2⟩ => ?_)
  subst hx
  obtain ⟨dx, vs, m2, m3, m4⟩ := objs_at S1 hG
  refine ⟨q, dx, _, k1, m2, zip_none hn, (h2 F0 T F1 H1 σ lk S1).mono fun ws H2 ⟨as, r2, G2, F2, e2, S2, k2, q3⟩ => ?_⟩
  exact spD_of (ds := .adr q :: as) lk S2 (e1.trans e2) ⟨_, _, rfl, k1, k2⟩ q3
/-- self.f, a property -/
theorem we_propO {f : Str} {C : Addr} {k j : Nat} {sp : FSp} {Q : Res → Env2 → GD → Prop} (c : Cls X.K C) (p : PropD X.prog X.w X.K X.mg X.base C f k sp) (hr : Room j X.A) (h : WE X e r G fun x r1 G1 => ∃ q ns ds, x = .sh (.adr q) ∧ G1 q = some (.obj C ns ds) ∧ sp [.adr q] G1 (fun z G2 => Q z r1 G2) (fun _ _ => False)) (hj : k + 1 ≤ j := by omega)
    (hb : attributeBase e f X.env (eval e X.env) = eval e X.env := by rfl) : WE X (.Attribute e f pos) r G Q := fun F0 T F H σ lk S => by
  obtain ⟨pa, g, fd, h1, h2, h3, h4, h5, h6⟩ := p.ex
  refine Run.of (pe_prop (E := fun _ _ _ => False) (dvs := []) (ds := []) peR c ⟨h1, h2, h3, h4⟩ h5 (hr.mono hj) h6 .nil (fun _ _ _ _ _ _ _ ⟨_, _, _, _, _, _, _, _, _, _, _, _, z⟩ => z.elim) hb) ((h F0 T F H σ lk S).mono fun v H1 ⟨x, r1, G1, F1, e1, S1, k1, q, ns, ds, hx, hG, q2⟩ => ?_)
  subst hx
  obtain ⟨dx, vs, m2, m3, m4⟩ := objs_at S1 hG
  cases (show v = .ref q from k1)
  exact ⟨q, dx, _, rfl, m2, spD_of0 S1 e1 (.one (show Rep X.K F1 (.adr q) (.ref q) from rfl)) q2⟩
structure MakeO (P : Program) (w : World) (K : PySem.W.Frag) (mg : Str → Option Value) (base : Heap) (x : Str) (C : Addr) (k : Nat) (ps : List Str) (f : FSp) : Prop where
  ex : ∃ (g : Addr) (fd : FuncData), Mk K C g ∧ mg x = some (.ref C) ∧ FnOk P w K mg base (CX P w) k g fd ps (spD K f) ∧ Binds K fd ps []
theorem we_makeO {x : Str} {C : Addr} {k j : Nat} {ps : List Str} {f : FSp} {Q : Res → Env2 → GD → Prop} (tk : X.Tk) (M : MakeO X.prog X.w X.K X.mg X.base x C k ps f) (hr : Room j X.A) (hg : Gl X x)
    (h : WA X (e :: es) r G fun ds r1 G1 => ∀ p dx, G1 p = none → G1 dx = none → dx ≠ p → f (.adr p :: ds) (updG (updG G1 dx (.xdo p false)) p (.obj C [] [])) (fun z G2 => z = .sh .non ∧ Q (.sh (.adr p)) r1 G2) (fun xn G2 => X.QX xn r1 G2)) (hj : k + 1 ≤ j := by omega)
    (hdb : (x == ("__debug__" : Str)) = false := by decide) (he : starEach (e :: es) X.env = (false, eval e X.env) :: starEach es X.env := by rfl) (hpl : (backTo pos (starEach es X.env)).any (·.1) = false := by rfl) : WE X (.Call (.Name x p0) (e :: es) [] pos) r G Q := fun F0 T F H σ lk S => by
  obtain ⟨g, fd, h1, h2, h3, h4⟩ := M.ex
  refine Run.of (pe_makeS h1 h3 (hr.mono hj) hg h2 h4 (fun σ => passAt tk σ) paR hdb he hpl) ((h F0 T F H σ lk S).mono fun vs H1 ⟨ds, r1, G1, F1, e1, S1, k1, q1⟩ => ?_)
  intro ad dx ha hd hne
  obtain ⟨f1, f2, f3⟩ := S1.bas.freshF ha
  obtain ⟨g1, g2, g3⟩ := S1.bas.freshF hd
  have S2 : Sta X.K F0 T F1 (updG G1 dx (.xdo ad false)) (upd H1 dx (.own ad)) r1 σ := by
    have Sn := S1.newH (o := .own ad) hd
    refine ⟨⟨Sn.bas.ff, Sn.bas.ft, Sn.bas.fh, fun p d hp => ?_, fun p d hp => ?_, fun p d hp => ?_, Sn.bas.tk⟩, Sn.len, fun i s hs => ?_, Sn.ap⟩
    · by_cases hpd : p = dx
      · subst hpd; rw [updG_same] at hp; cases hp; exact upd_same
      · rw [updG_ne hpd] at hp; exact Sn.bas.gh p d hp
    · by_cases hpd : p = dx
      · subst hpd; exact g1
      · rw [updG_ne hpd] at hp; exact Sn.bas.fg p d hp
    · by_cases hpd : p = dx
      · subst hpd; exact g3
      · rw [updG_ne hpd] at hp; exact Sn.bas.gt p d hp
    · have hh := Sn.sl i s hs
      cases s with
      | no => trivial
      | sh d => exact hh
      | own d =>
        obtain ⟨p, k1, k2, k3, k4, k5⟩ := hh
        refine ⟨p, k1, k2, k3, ?_, k5⟩
        have hpd : p ≠ dx := fun z => by
          obtain ⟨p', z1, z2, _⟩ := S1.ownS hs
          rw [z1] at k1; cases k1
          obtain ⟨u, hu⟩ := z2.there
          rw [z, hd] at hu; cases hu
        rw [updG_ne hpd]; exact k4
  have ha2 : (upd H1 dx (.own ad)) ad = none := by rw [upd_ne (fun z => hne z.symm)]; exact ha
  have S3 : Sta X.K F0 T F1 (updG (updG G1 dx (.xdo ad false)) ad (.obj C [] [])) (upd (upd H1 dx (.own ad)) ad (.ins C dx [])) r1 σ := by
    have Sn := S2.newH (o := .ins C dx []) ha2
    obtain ⟨w1, w2, w3⟩ := S2.bas.freshF ha2
    refine ⟨⟨Sn.bas.ff, Sn.bas.ft, Sn.bas.fh, fun p d hp => ?_, fun p d hp => ?_, fun p d hp => ?_, Sn.bas.tk⟩, Sn.len, fun i s hs => ?_, Sn.ap⟩
    · by_cases hpd : p = ad
      · subst hpd; rw [updG_same] at hp; cases hp; exact ⟨dx, [], upd_same, rfl, rfl⟩
      · rw [updG_ne hpd] at hp; exact Sn.bas.gh p d hp
    · by_cases hpd : p = ad
      · subst hpd; exact w1
      · rw [updG_ne hpd] at hp; exact Sn.bas.fg p d hp
    · by_cases hpd : p = ad
      · subst hpd; exact w3
      · rw [updG_ne hpd] at hp; exact Sn.bas.gt p d hp
    · have hh := Sn.sl i s hs
      cases s with
      | no => trivial
      | sh d => exact hh
      | own d =>
        obtain ⟨p, k1, k2, k3, k4, k5⟩ := hh
        refine ⟨p, k1, k2, k3, ?_, k5⟩
        have hpd : p ≠ ad := fun z => by
          obtain ⟨p', z1, z2, _⟩ := S2.ownS hs
          rw [z1] at k1; cases k1
          obtain ⟨u, hu⟩ := z2.there
          rw [z, ha2] at hu; cases hu
        rw [updG_ne hpd]; exact k4
  refine ⟨F1, _, .adr ad :: ds, _, _, S3.bas.fh, S3.bas.gh, S3.bas.fg, ⟨_, _, rfl, rfl, k1⟩, q1 ad dx f2 g2 hne, fun z G' v H' F' hp B rt => ?_, fun xn cls d G' H' F' hp B ex => ⟨r1, G', F', xn, lk.sta (S3.after B), ex, hp⟩⟩
  obtain ⟨hz, hq⟩ := hp
  subst hz
  exact ⟨rt, .sh (.adr ad), r1, G', F', e1.trans B.ff, S3.after B, rfl, hq⟩
end
open Out (Rt)
section
variable {X : Cy} {e a b c o tg kx vx elt : Expr} {es ifs : List Expr} {st : Stmt} {sts rest body orelse : List Stmt} {r : Env2} {G : GD} {pos tpos apos cpos p0 : Pos} {D0 : EndsD} {α β γ σT ρ : Type}
def AtG (env : σT → Env2) (gg : σT → GD → Prop) (Q : σT → Prop) : Env2 → GD → Prop := fun r G => ∃ s, Wk r (env s) ∧ gg s G ∧ Q s
theorem wb_forOG (is : List Nat) (env : σT → Env2) (gg : σT → GD → Prop) (en : α → D) (hp : PassesOwn (model X.prog X.w) X.A X.env X.xe) (hc : X.calm = true)
    (h : WI X tg e r G fun ds r2 G1 => ∃ (xs : List α) (s0 : σT) (f : σT → α → Out σT) (kk : σT → Out β) (Q : β → Prop) (E : Xm → Prop), ds = xs.map en ∧ Wk r2 (env s0) ∧ gg s0 G1 ∧ ((Out.fold f xs s0).bind kk).sat Q E ∧
      (∀ (s : σT) (G : GD) (x : α) (Q' : σT → Prop), gg s G → (f s x).sat Q' E → WG X tg (en x) (env s) G is fun r4 G4 => WB X body r4 G4 { D0 with nx := AtG env gg Q', ct := AtG env gg Q', bk := fun r1 G1 => WB X rest r1 G1 D0 }) ∧
      ∀ s G, gg s G → (kk s).sat Q E → WB X rest (env s) G D0) (hs : ∀ x, foldedSetIterable e X.env x = pure x := by intro _; rfl) : WB X (.For tg e body [] pos :: rest) r G D0 :=
  wb_cons (ws_for (is := is) hp hc (h.mono fun ds r2 G1 ⟨xs, s0, f, kk, Q, E, hd, w0, hg, h0, hb, hn⟩ => by
    subst hd
    refine ⟨fun k r3 G3 => AtG env gg (fun s => ((Out.fold f (xs.drop k) s).bind kk).sat Q E) r3 G3, ⟨s0, w0, hg, h0⟩, fun k d r3 G3 hd ⟨s, w, hg, hq⟩ => ?_, fun r3 G3 ⟨s, w, hg, hq⟩ => ?_⟩
    · obtain ⟨x, hx, rfl⟩ := map_at hd
      rw [drop_at hx] at hq
      have hq' : (f s x).sat (fun s' => ((Out.fold f (xs.drop (k + 1)) s').bind kk).sat Q E) E := by
        have z : (((f s x).bind (Out.fold f (xs.drop (k + 1)))).bind kk).sat Q E := hq
        cases hf : f s x with
        | ok s' => rw [hf] at z; exact z
        | ex x' => rw [hf] at z; exact z
        | no => rw [hf] at z; exact z
      exact (hb s _ x _ hg hq').weak w
    · rw [List.length_map, List.drop_length] at hq
      exact (hn s _ hg hq).weak w) hs)
end
open Out (Rt)
abbrev As := List Addr → GD → Prop
structure AOk (P : As) : Prop where
  dom : ∀ fp G, P fp G → ∀ a ∈ fp, ∃ d, G a = some d
  loc : ∀ fp G G', P fp G → (∀ a ∈ fp, G' a = G a) → P fp G'
/-- what a step leaves: all else is as it was, what is new was not there -/
def Frm (fp : List Addr) (G : GD) (fp' : List Addr) (G' : GD) : Prop := (∀ b, b ∉ fp → G b ≠ none → G' b = G b) ∧ ∀ b ∈ fp', b ∈ fp ∨ G b = none
theorem Frm.refl (fp : List Addr) (G : GD) : Frm fp G fp G := ⟨fun _ _ _ => rfl, fun _ h => .inl h⟩
theorem Frm.trans {a b c : List Addr} {G G' G'' : GD} (h : Frm a G b G') (k : Frm b G' c G'') : Frm a G c G'' := by
  refine ⟨fun x hx hg => ?_, fun x hx => ?_⟩
  · have e := h.1 x hx hg
    have hb : x ∉ b := fun z => by
      rcases h.2 x z with y | y
      · exact hx y
      · exact hg y
    rw [k.1 x hb (by rw [e]; exact hg), e]
  · rcases k.2 x hx with y | y
    · exact h.2 x y
    · by_cases z : x ∈ a
      · exact .inl z
      · right
        cases e : G x with
        | none => rfl
        | some d =>
          have := h.1 x z (by rw [e]; exact fun w => nomatch w)
          rw [y, e] at this; cases this
def GS (Ps : List As) (G : GD) : Prop := ∃ fps : List (List Addr), fps.length = Ps.length ∧ (∀ (i : Nat) (P : As) (fp : List Addr), Ps[i]? = some P → fps[i]? = some fp → AOk P ∧ P fp G) ∧ ∀ (i j : Nat) (fp fq : List Addr), i ≠ j → fps[i]? = some fp → fps[j]? = some fq → ∀ a ∈ fp, a ∉ fq
theorem GS.nil (G : GD) : GS [] G := ⟨[], rfl, fun i P fp h => by simp at h, fun i j fp fq _ h => by simp at h⟩
/-- one of the parts is changed -/
theorem GS.at {Ps : List As} {G : GD} (h : GS Ps G) (i : Nat) {P : As} (hi : Ps[i]? = some P) : ∃ fp, AOk P ∧ P fp G ∧ ∀ (P' : As) (fp' : List Addr) (G' : GD), AOk P' → P' fp' G' → Frm fp G fp' G' → GS (Ps.set i P') G' := by
  obtain ⟨fps, h1, h2, h3⟩ := h
  have hlt : i < Ps.length := (List.getElem?_eq_some_iff.mp hi).1
  obtain ⟨fp, hfp⟩ : ∃ fp, fps[i]? = some fp := ⟨_, List.getElem?_eq_getElem (by omega)⟩
  obtain ⟨k1, k2⟩ := h2 i P fp hi hfp
  refine ⟨fp, k1, k2, fun P' fp' G' q1 q2 q3 => ⟨fps.set i fp', by rw [List.length_set, List.length_set, h1], fun j Q fq hQ hq => ?_, fun j l fq fr hjl hq hr a ha hb => ?_⟩⟩
  · by_cases e : i = j
    · subst e
      rw [List.getElem?_set_self hlt] at hQ
      rw [List.getElem?_set_self (by omega)] at hq
      cases hQ; cases hq; exact ⟨q1, q2⟩
    · rw [List.getElem?_set_ne e] at hQ hq
      obtain ⟨m1, m2⟩ := h2 j Q fq hQ hq
      refine ⟨m1, m1.loc fq G G' m2 fun a ha => q3.1 a (h3 j i fq fp (fun z => e z.symm) hq hfp a ha) ?_⟩
      obtain ⟨d, hd⟩ := m1.dom fq G m2 a ha
      rw [hd]; exact fun z => nomatch z
  · have out : ∀ (m : Nat) (fm : List Addr), m ≠ i → fps[m]? = some fm → ∀ x ∈ fm, x ∉ fp' := fun m fm hm hfm x hx hx' => by
      rcases q3.2 x hx' with y | y
      · exact h3 m i fm fp hm hfm hfp x hx y
      · have hml : m < Ps.length := by have := (List.getElem?_eq_some_iff.mp hfm).1; omega
        obtain ⟨m1, m2⟩ := h2 m _ fm (List.getElem?_eq_getElem hml) hfm
        obtain ⟨d, hd⟩ := m1.dom fm G m2 x hx
        rw [y] at hd; cases hd
    by_cases e : i = j
    · subst e
      rw [List.getElem?_set_self (by omega)] at hq
      rw [List.getElem?_set_ne hjl] at hr
      cases hq
      exact out l fr (fun z => hjl z.symm) hr a hb ha
    · rw [List.getElem?_set_ne e] at hq
      by_cases e2 : i = l
      · subst e2
        rw [List.getElem?_set_self (by omega)] at hr
        cases hr
        exact out j fq (fun z => e z.symm) hq a ha hb
      · rw [List.getElem?_set_ne e2] at hr
        exact h3 j l fq fr hjl hq hr a ha hb
/-- a new part -/
theorem GS.add {Ps : List As} {G : GD} (h : GS Ps G) {P : As} {fp : List Addr} {G' : GD} (k : AOk P) (hp : P fp G') (h1 : ∀ b, G b ≠ none → G' b = G b) (h2 : ∀ b ∈ fp, G b = none) : GS (Ps ++ [P]) G' := by
  obtain ⟨fps, k1, k2, k3⟩ := h
  have dom : ∀ (i : Nat) (fq : List Addr), fps[i]? = some fq → ∀ a ∈ fq, ∃ d, G a = some d := fun i fq hq a ha => by
    have hil : i < Ps.length := by have := (List.getElem?_eq_some_iff.mp hq).1; omega
    obtain ⟨m1, m2⟩ := k2 i _ fq (List.getElem?_eq_getElem hil) hq
    exact m1.dom fq G m2 a ha
  refine ⟨fps ++ [fp], by rw [List.length_append, List.length_append, k1]; rfl, fun i Q fq hQ hq => ?_, fun i j fq fr hij hq hr a ha hb => ?_⟩
  · by_cases hi : i < Ps.length
    · rw [List.getElem?_append_left hi] at hQ
      rw [List.getElem?_append_left (by omega)] at hq
      obtain ⟨m1, m2⟩ := k2 i Q fq hQ hq
      refine ⟨m1, m1.loc fq G G' m2 fun a ha => h1 a ?_⟩
      obtain ⟨d, hd⟩ := m1.dom fq G m2 a ha
      rw [hd]; exact fun z => nomatch z
    · have : i = Ps.length := by have := (List.getElem?_eq_some_iff.mp hQ).1; rw [List.length_append] at this; simp at this; omega
      subst this
      rw [List.getElem?_append_right (Nat.le_refl _), Nat.sub_self] at hQ
      rw [← k1, List.getElem?_append_right (Nat.le_refl _), Nat.sub_self] at hq
      cases hQ; cases hq; exact ⟨k, hp⟩
  · have cs : ∀ (m : Nat) (fm : List Addr), (fps ++ [fp])[m]? = some fm → fps[m]? = some fm ∨ (m = fps.length ∧ fm = fp) := fun m fm hm => by
      by_cases hl : m < fps.length
      · rw [List.getElem?_append_left hl] at hm; exact .inl hm
      · have : m = fps.length := by have := (List.getElem?_eq_some_iff.mp hm).1; rw [List.length_append] at this; simp at this; omega
        subst this
        rw [List.getElem?_append_right (Nat.le_refl _), Nat.sub_self] at hm
        cases hm; exact .inr ⟨rfl, rfl⟩
    rcases cs i fq hq with z | ⟨z1, z2⟩
    · rcases cs j fr hr with y | ⟨y1, y2⟩
      · exact k3 i j fq fr hij z y a ha hb
      · subst y2
        obtain ⟨d, hd⟩ := dom i fq z a ha
        rw [h2 a hb] at hd; cases hd
    · subst z2
      rcases cs j fr hr with y | ⟨y1, y2⟩
      · obtain ⟨d, hd⟩ := dom j fr y a hb
        rw [h2 a ha] at hd; cases hd
      · exact hij (by omega)
theorem GS.take {Ps : List As} {G : GD} (h : GS Ps G) (n : Nat) : GS (Ps.take n) G := by
  obtain ⟨fps, k1, k2, k3⟩ := h
  refine ⟨fps.take n, by rw [List.length_take, List.length_take, k1], fun i P fp hP hf => ?_, fun i j fp fq hij hf hq => ?_⟩
  · rw [List.getElem?_take] at hP hf
    split at hP
    · rename_i hi
      rw [if_pos hi] at hf
      exact k2 i P fp hP hf
    · cases hP
  · rw [List.getElem?_take] at hf hq
    split at hf
    · split at hq
      · exact k3 i j fp fq hij hf hq
      · cases hq
    · cases hf
inductive Fld where
  | sh (d : D) | mu (ds : List D)
inductive FL (G : GD) : List Fld → List D → List Addr → Prop
  | nil : FL G [] [] []
  | sh {d : D} {fs : List Fld} {ds : List D} {as : List Addr} (h : FL G fs ds as) : FL G (.sh d :: fs) (d :: ds) as
  | mu {l : List D} {a : Addr} {fs : List Fld} {ds : List D} {as : List Addr} (ha : G a = some (.lst l)) (h : FL G fs ds as) : FL G (.mu l :: fs) (.adr a :: ds) (a :: as)
theorem FL.loc {G G' : GD} {fs : List Fld} {ds : List D} {as : List Addr} (h : FL G fs ds as) (k : ∀ a ∈ as, G' a = G a) : FL G' fs ds as := by
  induction h with
  | nil => exact .nil
  | sh _ ih => exact .sh (ih k)
  | mu ha _ ih => exact .mu (by rw [k _ List.mem_cons_self]; exact ha) (ih fun a h => k a (List.mem_cons_of_mem _ h))
theorem FL.dom {G : GD} {fs : List Fld} {ds : List D} {as : List Addr} (h : FL G fs ds as) : ∀ a ∈ as, ∃ d, G a = some d := by
  induction h with
  | nil => intro a h; cases h
  | sh _ ih => exact ih
  | mu ha _ ih =>
    intro a h
    rcases List.mem_cons.mp h with rfl | h
    · exact ⟨_, ha⟩
    · exact ih a h
theorem FL.len {G : GD} {fs : List Fld} {ds : List D} {as : List Addr} (h : FL G fs ds as) : fs.length = ds.length := by
  induction h with
  | nil => rfl
  | sh _ ih => rw [List.length_cons, List.length_cons, ih]
  | mu _ _ ih => rw [List.length_cons, List.length_cons, ih]
def obA (C o : Addr) (ns : List Str) (fs : List Fld) : As := fun fp G => ∃ ds as, fp = o :: as ∧ (o :: as).Nodup ∧ ns.length = fs.length ∧ G o = some (.obj C ns ds) ∧ FL G fs ds as
theorem obA_ok (C o : Addr) (ns : List Str) (fs : List Fld) : AOk (obA C o ns fs) := by
  refine ⟨?_, ?_⟩
  · rintro fp G ⟨ds, as, rfl, _, _, h1, h2⟩ a ha
    rcases List.mem_cons.mp ha with rfl | ha
    · exact ⟨_, h1⟩
    · exact h2.dom a ha
  · rintro fp G G' ⟨ds, as, rfl, hn, hl, h1, h2⟩ h
    exact ⟨ds, as, rfl, hn, hl, by rw [h o List.mem_cons_self]; exact h1, h2.loc fun a ha => h a (List.mem_cons_of_mem _ ha)⟩
/-- a field that is shared data is read -/
theorem FL.get {G : GD} : ∀ {fs : List Fld} {ds : List D} {as : List Addr}, FL G fs ds as → ∀ {ns : List Str} {f : Str} {d : D}, (ns.zip fs).lookup f = some (.sh d) → (ns.zip ds).lookup f = some d
  | _, _, _, .nil, ns, f, d, h => by cases ns <;> simp at h
  | _, _, _, .sh k, [], f, d, h => by simp at h
  | _, _, _, .mu _ k, [], f, d, h => by simp at h
  | _, _, _, .sh k, n :: ns, f, d, h => by
    rw [List.zip_cons_cons, List.lookup_cons] at h ⊢
    cases e : f == n with
    | true => rw [e] at h; cases h; rfl
    | false => rw [e] at h; exact k.get h
  | _, _, _, .mu _ k, n :: ns, f, d, h => by
    rw [List.zip_cons_cons, List.lookup_cons] at h ⊢
    cases e : f == n with
    | true => rw [e] at h; cases h
    | false => rw [e] at h; exact k.get h
/-- fields with a new one -/
def putFl (f : Str) (x : Fld) : List Str → List Fld → List Fld
  | g :: r, y :: fs => if g = f then x :: fs else y :: putFl f x r fs
  | _, _ => [x]
/-- a list of an own field is known by its address; it may be changed -/
theorem FL.mut {G : GD} : ∀ {fs : List Fld} {ds : List D} {as : List Addr}, FL G fs ds as → as.Nodup → ∀ {ns : List Str} {f : Str} {l : List D}, (ns.zip fs).lookup f = some (.mu l) → ∃ a ∈ as, (ns.zip ds).lookup f = some (.adr a) ∧ G a = some (.lst l) ∧ ∀ l', FL (updG G a (.lst l')) (putFl f (.mu l') ns fs) ds as
  | _, _, _, .nil, _, ns, f, l, h => by cases ns <;> simp at h
  | _, _, _, .sh k, _, [], f, l, h => by simp at h
  | _, _, _, .mu _ k, _, [], f, l, h => by simp at h
  | _, _, _, .sh (d := d) k, hn, n :: ns, f, l, h => by
    rw [List.zip_cons_cons, List.lookup_cons] at h
    cases e : f == n with
    | true => rw [e] at h; cases h
    | false =>
      rw [e] at h
      obtain ⟨a, ha, h1, h2, h3⟩ := k.mut hn h
      refine ⟨a, ha, by rw [List.zip_cons_cons, List.lookup_cons, e]; exact h1, h2, fun l' => ?_⟩
      unfold putFl
      rw [if_neg (fun z => by rw [z, beq_self_eq_true] at e; cases e)]
      exact .sh (h3 l')
  | _, _, _, .mu (a := a0) ha0 k, hn, n :: ns, f, l, h => by
    obtain ⟨n1, n2⟩ := List.nodup_cons.mp hn
    rw [List.zip_cons_cons, List.lookup_cons] at h
    cases e : f == n with
    | true =>
      rw [e] at h; cases h
      refine ⟨a0, List.mem_cons_self, by rw [List.zip_cons_cons, List.lookup_cons, e], ha0, fun l' => ?_⟩
      unfold putFl
      rw [if_pos (eq_of_beq e).symm]
      exact .mu updG_same (k.loc fun b hb => updG_ne fun z => n1 (z ▸ hb))
    | false =>
      rw [e] at h
      obtain ⟨a, ha, h1, h2, h3⟩ := k.mut n2 h
      refine ⟨a, List.mem_cons_of_mem _ ha, by rw [List.zip_cons_cons, List.lookup_cons, e]; exact h1, h2, fun l' => ?_⟩
      unfold putFl
      rw [if_neg (fun z => by rw [z, beq_self_eq_true] at e; cases e)]
      have hne : a0 ≠ a := fun z => n1 (by rw [z]; exact ha)
      exact .mu (by rw [updG_ne hne]; exact ha0) (h3 l')
/-- a field gets shared data, or a list that is new -/
theorem FL.put {G : GD} : ∀ {fs : List Fld} {ds : List D} {as : List Addr}, FL G fs ds as → as.Nodup → ∀ {ns : List Str}, ns.length = fs.length → ∀ (f : Str) (x : Fld) (dx : D) (ax : List Addr), FL G [x] [dx] ax → (∀ a ∈ ax, a ∉ as) → ∃ bs, FL G (putFl f x ns fs) (putAD f dx ns ds) bs ∧ bs.Nodup ∧ ∀ a ∈ bs, a ∈ as ∨ a ∈ ax
  | _, _, _, .nil, _, [], _, f, x, dx, ax, hx, _ => ⟨ax, hx, by
      cases hx with
      | sh h => cases h; exact List.nodup_nil
      | mu _ h => cases h; simp, fun a h => .inr h⟩
  | _, _, _, .nil, _, _ :: _, hl, _, _, _, _, _, _ => nomatch hl
  | _, _, _, .sh _, _, [], hl, _, _, _, _, _, _ => nomatch hl
  | _, _, _, .mu _ _, _, [], hl, _, _, _, _, _, _ => nomatch hl
  | _, _, _, .sh (as := as) k, hn, n :: ns, hl, f, x, dx, ax, hx, hd => by
    unfold putFl putAD
    by_cases e : n = f
    · rw [if_pos e, if_pos e]
      cases hx with
      | sh h => cases h; exact ⟨as, .sh k, hn, fun a h => .inl h⟩
      | mu ha h =>
        cases h
        rename_i a0
        exact ⟨a0 :: as, .mu ha k, List.nodup_cons.mpr ⟨hd a0 (by simp), hn⟩, fun a h => by
          rcases List.mem_cons.mp h with rfl | h
          · exact .inr (by simp)
          · exact .inl h⟩
    · rw [if_neg e, if_neg e]
      obtain ⟨bs, b1, b2, b3⟩ := k.put hn (Nat.succ.inj hl) f x dx ax hx hd
      exact ⟨bs, .sh b1, b2, b3⟩
  | _, _, _, .mu (as := as) (a := a1) ha1 k, hn, n :: ns, hl, f, x, dx, ax, hx, hd => by
    obtain ⟨n1, n2⟩ := List.nodup_cons.mp hn
    have hd' : ∀ a ∈ ax, a ∉ as := fun a h z => hd a h (List.mem_cons_of_mem _ z)
    unfold putFl putAD
    by_cases e : n = f
    · rw [if_pos e, if_pos e]
      cases hx with
      | sh h => cases h; exact ⟨as, .sh k, n2, fun a h => .inl (List.mem_cons_of_mem _ h)⟩
      | mu ha h =>
        cases h
        rename_i a0
        exact ⟨a0 :: as, .mu ha k, List.nodup_cons.mpr ⟨hd' a0 (by simp), n2⟩, fun a h => by
          rcases List.mem_cons.mp h with rfl | h
          · exact .inr (by simp)
          · exact .inl (List.mem_cons_of_mem _ h)⟩
    · rw [if_neg e, if_neg e]
      obtain ⟨bs, b1, b2, b3⟩ := k.put n2 (Nat.succ.inj hl) f x dx ax hx hd'
      refine ⟨a1 :: bs, .mu ha1 b1, List.nodup_cons.mpr ⟨fun z => ?_, b2⟩, fun a h => ?_⟩
      · rcases b3 a1 z with y | y
        · exact n1 y
        · exact hd a1 y List.mem_cons_self
      · rcases List.mem_cons.mp h with rfl | h
        · exact .inl List.mem_cons_self
        · exact (b3 a h).imp (List.mem_cons_of_mem _) id
open Out (Rt)
section
variable {X : Cy} {e a b c o : Expr} {es : List Expr} {st : Stmt} {sts rest : List Stmt} {r : Env2} {G : GD} {pos apos p0 : Pos} {D0 : EndsD} {σT A R : Type}
theorem obA.own {C p : Addr} {ns : List Str} {fs : List Fld} {fp : List Addr} (h : obA C p ns fs fp G) : ∃ ds, G p = some (.obj C ns ds) := let ⟨ds, _, _, _, _, h1, _⟩ := h; ⟨ds, h1⟩
/-- self.f, shared data -/
theorem we_fldA {f : Str} {C : Addr} {ns : List Str} {fs : List Fld} {d : D} {Q : Res → Env2 → GD → Prop} (c : Cls X.K C) (n : NoAttr X.K C f) (hl : (ns.zip fs).lookup f = some (.sh d)) (h : WE X e r G fun x r1 G1 => ∃ p fp, x = .sh (.adr p) ∧ obA C p ns fs fp G1 ∧ Q (.sh d) r1 G1)
    (hb : attributeBase e f X.env (eval e X.env) = eval e X.env := by rfl) : WE X (.Attribute e f pos) r G Q :=
  we_fldO (h.mono fun x r1 G1 ⟨p, fp, hx, hP, q⟩ => by
    obtain ⟨ds, as, _, _, _, hG, hF⟩ := hP
    exact ⟨p, C, ns, ds, d, hx, hG, c, n, hF.get hl, q⟩) hb
/-- self.f, an own list -/
theorem we_fldM {f : Str} {C : Addr} {ns : List Str} {fs : List Fld} {l : List D} {Q : Res → Env2 → GD → Prop} (c : Cls X.K C) (n : NoAttr X.K C f) (hl : (ns.zip fs).lookup f = some (.mu l)) (h : WE X e r G fun x r1 G1 => ∃ p fp, x = .sh (.adr p) ∧ obA C p ns fs fp G1 ∧
      ∀ a, G1 a = some (.lst l) → (∀ l', obA C p ns (putFl f (.mu l') ns fs) fp (updG G1 a (.lst l')) ∧ Frm fp G1 fp (updG G1 a (.lst l'))) → Q (.sh (.adr a)) r1 G1)
    (hpl : ∀ x, (putFl f x ns fs).length = fs.length := by intro _; rfl) (hb : attributeBase e f X.env (eval e X.env) = eval e X.env := by rfl) : WE X (.Attribute e f pos) r G Q :=
  we_fldO (h.mono fun x r1 G1 ⟨p, fp, hx, hP, q⟩ => by
    obtain ⟨ds, as, rfl, hnd, hln, hG, hF⟩ := hP
    obtain ⟨n1, n2⟩ := List.nodup_cons.mp hnd
    obtain ⟨a, ha, h1, h2, h3⟩ := hF.mut n2 hl
    have hpa : p ≠ a := fun z => n1 (z ▸ ha)
    refine ⟨p, C, ns, ds, .adr a, hx, hG, c, n, h1, q a h2 fun l' => ⟨⟨ds, as, rfl, hnd, by rw [hpl]; exact hln, by rw [updG_ne hpa]; exact hG, h3 l'⟩, fun b hb _ => updG_ne fun z => hb ?_, fun b hb => .inl hb⟩⟩
    rw [z]; exact List.mem_cons_of_mem _ ha) hb
/-- self.f = e, shared data -/
theorem ws_fldA {f : Str} {C : Addr} {ns : List Str} {fs : List Fld} (c : Cls X.K C) (n : NoAttr X.K C f) (hn : ns.length < 1000) (h : WE X e r G fun y r1 G1 => ∃ d r2, fz r1 y = some (d, r2) ∧ WE X o r2 G1 fun x r3 G3 => ∃ p fp, x = .sh (.adr p) ∧ obA C p ns fs fp G3 ∧
      ∀ fp' G', obA C p (putA f ns) (putFl f (.sh d) ns fs) fp' G' → Frm fp G3 fp' G' → D0.nx r3 G')
    (hs : swapsWith e (some (.Attribute o f apos)) pos.line X.env = pure false := by rfl) : WS X (.Assign [.Attribute o f apos] e pos) r G D0 :=
  ws_fldO (h.mono fun y r1 G1 ⟨d, r2, q1, h2⟩ => ⟨d, r2, q1, h2.mono fun x r3 G3 ⟨p, fp, hx, hP, k⟩ => by
    obtain ⟨ds, as, rfl, hnd, hln, hG, hF⟩ := hP
    obtain ⟨n1, n2⟩ := List.nodup_cons.mp hnd
    have hF' : FL (updG G3 p (.obj C (putA f ns) (putAD f d ns ds))) fs ds as := hF.loc fun a ha => updG_ne fun z => n1 (z ▸ ha)
    obtain ⟨bs, b1, b2, b3⟩ := hF'.put n2 hln f (.sh d) d [] (.sh .nil) (fun a h => by cases h)
    have hbs : ∀ a ∈ bs, a ∈ as := fun a h => (b3 a h).elim id fun z => by cases z
    refine ⟨p, C, ns, ds, hx, hG, c, n, hn, k (p :: bs) _ ⟨_, bs, rfl, List.nodup_cons.mpr ⟨fun z => n1 (hbs p z), b2⟩, ?_, updG_same, b1⟩ ⟨fun b hb _ => updG_ne fun z => hb (by simp [z]), fun b hb => ?_⟩⟩
    · have e1 : (putA f ns).length = (putAD f d ns ds).length := by
        have : ∀ (ns : List Str) (ds : List D), ns.length = ds.length → (putA f ns).length = (putAD f d ns ds).length := by
          intro ns
          induction ns with
          | nil => intro ds h; cases ds with
            | nil => rfl
            | cons _ _ => cases h
          | cons m ns ih =>
            intro ds h
            cases ds with
            | nil => cases h
            | cons x ds =>
              unfold putA putAD
              by_cases e : m = f
              · rw [if_pos e, if_pos e]; exact h
              · rw [if_neg e, if_neg e, List.length_cons, List.length_cons, ih ds (Nat.succ.inj h)]
        exact this ns ds (by rw [hln, hF.len])
      rw [e1, b1.len]
    · rcases List.mem_cons.mp hb with rfl | hb
      · exact .inl List.mem_cons_self
      · exact .inl (List.mem_cons_of_mem _ (hbs b hb))⟩) hs
theorem putA_len (f : Str) (d : D) : ∀ (ns : List Str) (ds : List D), ns.length = ds.length → (putA f ns).length = (putAD f d ns ds).length
  | [], [], _ => rfl
  | [], _ :: _, h => nomatch h
  | _ :: _, [], h => nomatch h
  | m :: ns, x :: ds, h => by
    unfold putA putAD
    by_cases e : m = f
    · rw [if_pos e, if_pos e]; exact h
    · rw [if_neg e, if_neg e, List.length_cons, List.length_cons, putA_len f d ns ds (Nat.succ.inj h)]
/-- self.f = a new list that stays one's own -/
theorem ws_fldN {f : Str} {C : Addr} {ns : List Str} {fs : List Fld} (c : Cls X.K C) (n : NoAttr X.K C f) (hn : ns.length < 1000) (h : WE X e r G fun y r1 G1 => ∃ l, y = .fr (.lst l) ∧ ∀ a, G1 a = none → WE X o r1 (updG G1 a (.lst l)) fun x r3 G3 => ∃ p fp, x = .sh (.adr p) ∧ G3 = updG G1 a (.lst l) ∧ obA C p ns fs fp G1 ∧
      ∀ fp' G', obA C p (putA f ns) (putFl f (.mu l) ns fs) fp' G' → Frm fp G1 fp' G' → D0.nx r3 G')
    (hs : swapsWith e (some (.Attribute o f apos)) pos.line X.env = pure false := by rfl) : WS X (.Assign [.Attribute o f apos] e pos) r G D0 :=
  ws_fldO (we_open (h.mono fun y r1 G1 ⟨l, hy, h2⟩ => ⟨.lst l, hy, fun a ha => ⟨.adr a, r1, rfl, (h2 a ha).mono fun x r3 G3 ⟨p, fp, hx, hG3, hP, k⟩ => by
    subst hG3
    obtain ⟨ds, as, rfl, hnd, hln, hG, hF⟩ := hP
    obtain ⟨n1, n2⟩ := List.nodup_cons.mp hnd
    have hpa : p ≠ a := fun z => by rw [z, ha] at hG; cases hG
    have haas : a ∉ as := fun z => by obtain ⟨d, hd⟩ := hF.dom a z; rw [ha] at hd; cases hd
    have hF' : FL (updG (updG G1 a (.lst l)) p (.obj C (putA f ns) (putAD f (.adr a) ns ds))) fs ds as := hF.loc fun b hb => by
      have q1 : b ≠ p := fun z => n1 (by rw [← z]; exact hb)
      have q2 : b ≠ a := fun z => haas (by rw [← z]; exact hb)
      rw [updG_ne q1, updG_ne q2]
    obtain ⟨bs, b1, b2, b3⟩ := hF'.put n2 hln f (.mu l) (.adr a) [a] (.mu (by rw [updG_ne (fun z => hpa z.symm), updG_same]) .nil) (fun b h => by rw [List.mem_singleton] at h; subst h; exact haas)
    refine ⟨p, C, ns, ds, hx, by rw [updG_ne hpa]; exact hG, c, n, hn, k (p :: bs) _ ⟨_, bs, rfl, List.nodup_cons.mpr ⟨fun z => ?_, b2⟩, ?_, updG_same, b1⟩ ⟨fun b hb hg => ?_, fun b hb => ?_⟩⟩
    · rcases b3 p z with y | y
      · exact n1 y
      · rw [List.mem_singleton] at y; exact hpa y
    · rw [putA_len f (.adr a) ns ds (by rw [hln, hF.len]), b1.len]
    · have hba : b ≠ a := fun z => hg (by rw [z]; exact ha)
      rw [updG_ne (fun z => hb (by simp [z])), updG_ne hba]
    · rcases List.mem_cons.mp hb with rfl | hb
      · exact .inl List.mem_cons_self
      · rcases b3 b hb with y | y
        · exact .inl (List.mem_cons_of_mem _ y)
        · rw [List.mem_singleton] at y; subst y; exact .inr ha⟩⟩)) hs
theorem repl_adr {K : PySem.W.Frag} {F F' : Hp} (ex : Ex F F') {f : Str} {a : Addr} {d : D} (hd : Rep K F' d (.ref a)) : ∀ {ns : List Str} {ds : List D} {vs : List V}, (ns.zip ds).lookup f = some (.adr a) → RepL K F ds vs → RepL K F' (putAD f d ns ds) vs
  | [], ds, vs, h, _ => by simp at h
  | n :: ns, [], vs, h, _ => by simp at h
  | n :: ns, d0 :: ds, vs, h, ⟨v, r, e, h1, h2⟩ => by
    subst e
    rw [List.zip_cons_cons, List.lookup_cons] at h
    unfold putAD
    cases hf : f == n with
    | true =>
      rw [hf] at h
      have h := Option.some.inj h
      subst h
      rw [if_pos (eq_of_beq hf).symm]
      cases (show v = .ref a from h1)
      exact ⟨_, _, rfl, hd, RepL.mono ex _ _ h2⟩
    | false =>
      rw [hf] at h
      rw [if_neg (fun z => by rw [z, beq_self_eq_true] at hf; cases hf)]
      exact ⟨_, _, rfl, Rep.mono ex _ _ h1, repl_adr ex hd h h2⟩
theorem FL.frz {G : GD} : ∀ {fs : List Fld} {ds : List D} {as : List Addr}, FL G fs ds as → as.Nodup → ∀ {ns : List Str} {f : Str} {l : List D}, (ns.zip fs).lookup f = some (.mu l) → ∀ (d : D), ∃ a ∈ as, (ns.zip ds).lookup f = some (.adr a) ∧ G a = some (.lst l) ∧ ∃ bs, FL G (putFl f (.sh d) ns fs) (putAD f d ns ds) bs ∧ bs.Nodup ∧ (∀ b ∈ bs, b ∈ as) ∧ a ∉ bs
  | _, _, _, .nil, _, ns, f, l, h, _ => by cases ns <;> simp at h
  | _, _, _, .sh k, _, [], f, l, h, _ => by simp at h
  | _, _, _, .mu _ k, _, [], f, l, h, _ => by simp at h
  | _, _, _, .sh (d := d0) k, hn, n :: ns, f, l, h, d => by
    rw [List.zip_cons_cons, List.lookup_cons] at h
    cases e : f == n with
    | true => rw [e] at h; cases h
    | false =>
      rw [e] at h
      obtain ⟨a, ha, h1, h2, bs, h3, h4, h5, h6⟩ := k.frz hn h d
      refine ⟨a, ha, by rw [List.zip_cons_cons, List.lookup_cons, e]; exact h1, h2, bs, ?_, h4, h5, h6⟩
      unfold putFl putAD
      rw [if_neg (fun z => by rw [z, beq_self_eq_true] at e; cases e), if_neg (fun z => by rw [z, beq_self_eq_true] at e; cases e)]
      exact .sh h3
  | _, _, _, .mu (a := a0) (as := as) ha0 k, hn, n :: ns, f, l, h, d => by
    obtain ⟨n1, n2⟩ := List.nodup_cons.mp hn
    rw [List.zip_cons_cons, List.lookup_cons] at h
    cases e : f == n with
    | true =>
      rw [e] at h; cases h
      refine ⟨a0, List.mem_cons_self, by rw [List.zip_cons_cons, List.lookup_cons, e], ha0, as, ?_, n2, fun b hb => List.mem_cons_of_mem _ hb, n1⟩
      unfold putFl putAD
      rw [if_pos (eq_of_beq e).symm, if_pos (eq_of_beq e).symm]
      exact .sh k
    | false =>
      rw [e] at h
      obtain ⟨a, ha, h1, h2, bs, h3, h4, h5, h6⟩ := k.frz n2 h d
      refine ⟨a, List.mem_cons_of_mem _ ha, by rw [List.zip_cons_cons, List.lookup_cons, e]; exact h1, h2, a0 :: bs, ?_, List.nodup_cons.mpr ⟨fun z => n1 (h5 _ z), h4⟩, fun b hb => ?_, fun z => ?_⟩
      · unfold putFl putAD
        rw [if_neg (fun z => by rw [z, beq_self_eq_true] at e; cases e), if_neg (fun z => by rw [z, beq_self_eq_true] at e; cases e)]
        exact .mu ha0 h3
      · rcases List.mem_cons.mp hb with rfl | hb
        · exact List.mem_cons_self
        · exact List.mem_cons_of_mem _ (h5 b hb)
      · rcases List.mem_cons.mp z with z | z
        · exact n1 (z ▸ ha)
        · exact h6 z
/-- the field's list is shared from now on -/
theorem wb_frzF {f : Str} {C p : Addr} {ns : List Str} {fs : List Fld} {fp : List Addr} {l : List D} (hP : obA C p ns fs fp G) (hl : (ns.zip fs).lookup f = some (.mu l)) (hpl : (putFl f (.sh (.lst l)) ns fs).length = fs.length)
    (k : ∀ fp' G', obA C p ns (putFl f (.sh (.lst l)) ns fs) fp' G' → Frm fp G fp' G' → WB X sts r G' D0) : WB X sts r G D0 := fun F0 T F H σ lk S => by
  obtain ⟨ds, as, rfl, hnd, hln, hG, hF⟩ := hP
  obtain ⟨n1, n2⟩ := List.nodup_cons.mp hnd
  obtain ⟨a, ha, h1, h2, bs, h3, h4, h5, h6⟩ := hF.frz n2 hl (.lst l)
  have hpa : p ≠ a := fun z => n1 (by rw [z]; exact ha)
  obtain ⟨us, o1, o2⟩ := S.bas.gh a _ h2
  obtain ⟨dx, vs, m1, m2, m3⟩ := objs_at S hG
  have fa := S.bas.fg a _ h2
  have ta := S.bas.gt a _ h2
  let G' : GD := fun b => if b = a then none else updG G p (.obj C ns (putAD f (.lst l) ns ds)) b
  have ga : G' a = none := if_pos rfl
  have gp : G' p = some (.obj C ns (putAD f (.lst l) ns ds)) := by show (if p = a then none else _) = _; rw [if_neg hpa, updG_same]
  have go : ∀ b, b ≠ a → b ≠ p → G' b = G b := fun b hb hb' => by show (if b = a then none else _) = _; rw [if_neg hb, updG_ne hb']
  have ex : Ex F (upd F a (.lst us)) := Ex.new fa
  have dom : ∀ {b : Addr} {d : D}, G' b = some d → ∃ d', G b = some d' := fun {b d} h => by
    by_cases e : b = a
    · subst e; rw [ga] at h; cases h
    · by_cases e2 : b = p
      · subst e2; exact ⟨_, hG⟩
      · rw [go b e e2] at h; exact ⟨_, h⟩
  have S' : Sta X.K F0 T (upd F a (.lst us)) G' H r σ := by
    refine ⟨⟨S.bas.ff.trans ex, fun q u hq => ?_, fun q u hq => ?_, fun q d hq => ?_, fun q d hq => ?_, fun q d hq => ?_, S.bas.tk⟩, S.len, fun i s hs => ?_, S.ap⟩
    · by_cases e : q = a
      · subst e; exact .inr ta
      · rw [upd_ne e] at hq; exact S.bas.ft q u hq
    · by_cases e : q = a
      · subst e; rw [upd_same] at hq; cases hq; exact o1
      · rw [upd_ne e] at hq; exact S.bas.fh q u hq
    · by_cases e : q = a
      · subst e; rw [ga] at hq; cases hq
      · by_cases e2 : q = p
        · subst e2; rw [gp] at hq; cases hq
          refine ⟨dx, vs, m1, ?_, repl_adr (a := a) (d := .lst l) ex (show Rep X.K _ (.lst l) (.ref a) from ⟨a, us, rfl, .inl upd_same, RepL.mono ex _ _ o2⟩) h1 m3⟩
          rw [hln, ← hpl, h3.len]
        · rw [go q e e2] at hq; exact (S.bas.gh q d hq).mono ex fun _ h => h
    · obtain ⟨d', hd'⟩ := dom hq
      by_cases e : q = a
      · subst e; rw [ga] at hq; cases hq
      · rw [upd_ne e]; exact S.bas.fg q d' hd'
    · obtain ⟨d', hd'⟩ := dom hq
      exact S.bas.gt q d' hd'
    · have hh := S.sl i s hs
      cases s with
      | no => trivial
      | sh d => obtain ⟨v, k1, k2⟩ := hh; exact ⟨v, k1, Rep.mono ex _ _ k2⟩
      | own d =>
        obtain ⟨q, k1, k2, k3, k4, k5⟩ := hh
        have hqa : q ≠ a := fun z => by rw [z, h2] at k4; cases k4
        refine ⟨q, k1, k2.mono ex fun _ h => h, by rw [upd_ne hqa]; exact k3, ?_, k5⟩
        cases e : G' q with
        | none => rfl
        | some d' => obtain ⟨d2, hd2⟩ := dom e; rw [k4] at hd2; cases hd2
  refine (k (p :: bs) G' ⟨_, bs, rfl, List.nodup_cons.mpr ⟨fun z => n1 (h5 p z), h4⟩, by rw [hpl]; exact hln, gp, h3.loc fun b hb => go b (fun z => h6 (z ▸ hb)) (fun z => n1 (h5 p (z ▸ hb)))⟩ ⟨fun b hb _ => go b (fun z => hb (by rw [z]; exact List.mem_cons_of_mem _ ha)) fun z => hb (by rw [z]; exact List.mem_cons_self), fun b hb => ?_⟩ F0 T _ H σ ⟨lk.t, lk.f, lk.ft⟩ S')
  rcases List.mem_cons.mp hb with rfl | hb
  · exact .inl List.mem_cons_self
  · exact .inl (List.mem_cons_of_mem _ (h5 b hb))
/-- of a method: the object's state is threaded -/
def FMO (cx : Nat → Addr) (C : Addr) (ns : List Str) {σT A R : Type} (fl : σT → List Fld) (en : A → List D) (er : R → Res) (f : σT → A → Out (R × σT)) : FSp := fun ds G post px => ∃ (s : σT) (a : A) (o : Addr) (fp : List Addr), ds = .adr o :: en a ∧ obA C o ns (fl s) fp G ∧
  (f s a).sat (fun v => ∀ fp' G', obA C o ns (fl v.2) fp' G' → Frm fp G fp' G' → post (er v.1) G') (fun m => ∀ fp' G', obA C o ns (fl s) fp' G' → Frm fp G fp' G' → px (xnOf cx m) G')
/-- of an __init__ -/
def FIO (cx : Nat → Addr) (C : Addr) (ns : List Str) {σT A : Type} (fl : σT → List Fld) (en : A → List D) (f : A → Out σT) : FSp := fun ds G post px => ∃ (a : A) (o dx : Addr) (G0 : GD), ds = .adr o :: en a ∧ G = updG (updG G0 dx (.xdo o false)) o (.obj C [] []) ∧ G0 o = none ∧ G0 dx = none ∧ dx ≠ o ∧
  (f a).sat (fun s => ∀ fp' G', obA C o ns (fl s) fp' G' → Frm [] G0 fp' G' → post (.sh .non) G') (fun m => ∀ G', (∀ b, G0 b ≠ none → G' b = G0 b) → px (xnOf cx m) G')
theorem obA_new {C o dx : Addr} {G0 : GD} : obA C o [] [] [o] (updG (updG G0 dx (.xdo o false)) o (.obj C [] [])) := ⟨[], [], rfl, by simp, rfl, updG_same, .nil⟩
theorem frm_new {C o dx : Addr} {G0 : GD} (h1 : G0 o = none) (h2 : G0 dx = none) : Frm [] G0 [o] (updG (updG G0 dx (.xdo o false)) o (.obj C [] [])) :=
  ⟨fun b _ hb => by
    have q1 : b ≠ o := fun z => hb (by rw [z]; exact h1)
    have q2 : b ≠ dx := fun z => hb (by rw [z]; exact h2)
    rw [updG_ne q1, updG_ne q2], fun b hb => by rw [List.mem_singleton] at hb; subst hb; exact .inr h1⟩
end
open Out (Rt)
section
variable {X : Cy} {e a b c o : Expr} {es : List Expr} {st : Stmt} {sts rest : List Stmt} {r : Env2} {G : GD} {pos apos cpos p0 : Pos} {D0 : EndsD} {σT A R α : Type} {cx : Nat → Addr}
theorem WA.mono {Q Q' : List D → Env2 → GD → Prop} (h : WA X es r G Q) (k : ∀ x r' G', Q x r' G' → Q' x r' G') : WA X es r G Q' := fun F0 T F H σ lk S =>
  (h F0 T F H σ lk S).mono fun _ _ ⟨x, r', G', F', a, b, c, q⟩ => ⟨x, r', G', F', a, b, c, k _ _ _ q⟩
theorem we_appendG {f : α → D} {Q : Res → Env2 → GD → Prop}
    (h : WE X o r G fun x r1 G1 => ∃ g xs, x = .sh (.adr g) ∧ G1 g = some (.lst (List.map f xs)) ∧ WE X e r1 G1 fun y r2 G2 => ∃ z r3, fz r2 y = some (f z, r3) ∧ G2 g = some (.lst (List.map f xs)) ∧ xs.length < LIM ∧ Q (.sh .non) r3 (updG G2 g (.lst ((xs ++ [z]).map f))))
    (hbase : attributeBase o "append" X.env (eval o X.env) = eval o X.env := by rfl)
    (hfew : ((backTo cpos (starEach [e] X.env)).all (fun x => !x.1) && (backToKw cpos (keywordEach [] X.env)).all (fun x => x.1.isSome) && decide (([e] : List Expr).length + ([] : List Keyword).length + (if ([] : List Keyword).isEmpty then 0 else 1) < 30)) = true := by rfl)
    (hline : (apos.endLine == cpos.line) = true := by rfl) (hs : starEach [e] X.env = (false, eval e X.env) :: starEach [] X.env := by rfl) (hplain : (backTo cpos (starEach [] X.env)).any (·.1) = false := by rfl) :
    WE X (.Call (.Attribute o "append" apos) [e] [] cpos) r G Q :=
  we_m1G PySem.F.plainAttrs_list PySem.F.slot_list_append PySem.F.type_list_append (h.mono fun x r1 G1 ⟨g, xs, h1, h2, h3⟩ => ⟨g, _, h1, h2, h3.mono fun y r2 G2 ⟨z, r3, k1, k2, k3, k4⟩ => ⟨f z, r3, _, k1, k2, mw_append (by rw [List.length_map]; exact k3) (by rw [List.map_append] at k4; exact k4)⟩⟩) hbase hfew hline hs hplain
theorem we_extendG {f : α → D} {Q : Res → Env2 → GD → Prop}
    (h : WE X o r G fun x r1 G1 => ∃ g xs, x = .sh (.adr g) ∧ G1 g = some (.lst (List.map f xs)) ∧ WE X e r1 G1 fun y r2 G2 => ∃ zs r3, fz r2 y = some (.lst (List.map f zs), r3) ∧ G2 g = some (.lst (List.map f xs)) ∧ xs.length + zs.length ≤ LIM ∧ Q (.sh .non) r3 (updG G2 g (.lst ((xs ++ zs).map f))))
    (hbase : attributeBase o "extend" X.env (eval o X.env) = eval o X.env := by rfl)
    (hfew : ((backTo cpos (starEach [e] X.env)).all (fun x => !x.1) && (backToKw cpos (keywordEach [] X.env)).all (fun x => x.1.isSome) && decide (([e] : List Expr).length + ([] : List Keyword).length + (if ([] : List Keyword).isEmpty then 0 else 1) < 30)) = true := by rfl)
    (hline : (apos.endLine == cpos.line) = true := by rfl) (hs : starEach [e] X.env = (false, eval e X.env) :: starEach [] X.env := by rfl) (hplain : (backTo cpos (starEach [] X.env)).any (·.1) = false := by rfl) :
    WE X (.Call (.Attribute o "extend" apos) [e] [] cpos) r G Q :=
  we_m1G PySem.F.plainAttrs_list PySem.F.slot_list_extend PySem.F.type_list_extend (h.mono fun x r1 G1 ⟨g, xs, h1, h2, h3⟩ => ⟨g, _, h1, h2, h3.mono fun y r2 G2 ⟨zs, r3, k1, k2, k3, k4⟩ => ⟨_, r3, _, k1, k2, mw_extend (by rw [List.length_map, List.length_map]; exact k3) (by rw [List.map_append] at k4; exact k4)⟩⟩) hbase hfew hline hs hplain
/-- a method that changes nothing -/
def FCO (cx : Nat → Addr) (C : Addr) (ns : List Str) {σT A R : Type} (fl : σT → List Fld) (en : A → List D) (er : R → Res) (f : σT → A → Out R) : FSp := fun ds G post px => ∃ (s : σT) (a : A) (o : Addr) (fp : List Addr), ds = .adr o :: en a ∧ obA C o ns (fl s) fp G ∧
  (f s a).sat (fun v => post (er v) G) (fun m => px (xnOf cx m) G)
theorem we_methC {m : Str} {C : Addr} {k j : Nat} {ps : List Str} {pl : Sem Bool} {ns : List Str} {fl : σT → List Fld} {en : A → List D} {er : R → Res} {f : σT → A → Out R} {Q : Res → Env2 → GD → Prop} (tk : X.Tk) (c : Cls X.K C) (p : MethD X.prog X.w X.K X.mg X.base C m k ps (FCO cx C ns fl en er f)) (hr : Room j X.A) (nm : (ns.all fun n => !(m == n)) = true)
    (h : WE X o r G fun x r1 G1 => ∃ s q fp, x = .sh (.adr q) ∧ obA C q ns (fl s) fp G1 ∧ WA X (e :: es) r1 G1 fun as r2 G2 => ∃ a fp2, as = en a ∧ obA C q ns (fl s) fp2 G2 ∧ (f s a).sat (fun v => Q (er v) r2 G2) (fun xm => X.QX (xnOf cx xm) r2 G2)) (hj : k ≤ j := by omega)
    (hst : starEach (e :: es) X.env = (false, eval e X.env) :: starEach es X.env := by rfl) (hpl : (backTo pos (starEach es X.env)).any (·.1) = false := by rfl)
    (ht : eval (.Call (.Attribute o m apos) (e :: es) [] pos) X.env = (do
      let ov ← eval o X.env
      standAt apos.atName
      let (f, first) ← holding [ov] (getMethod ov m pl)
      callWith pos f first (backTo pos (starEach (e :: es) X.env)) (backToKw pos (keywordEach [] X.env))) := by rfl) : WE X (.Call (.Attribute o m apos) (e :: es) [] pos) r G Q :=
  we_methO tk c p hr (h.mono fun x r1 G1 ⟨s, q, fp, hx, hP, h2⟩ => by
    obtain ⟨ds, hG⟩ := hP.own
    exact ⟨q, ns, ds, hx, hG, nm, WA.mono h2 fun as r2 G2 ⟨a, fp2, ha, hP2, hs⟩ => by subst ha; exact ⟨s, a, q, fp2, rfl, hP2, hs⟩⟩) hj hst hpl ht
theorem we_methC0 {m : Str} {C : Addr} {k j : Nat} {ps : List Str} {pl : Sem Bool} {ns : List Str} {fl : σT → List Fld} {er : R → Res} {f : σT → Unit → Out R} {Q : Res → Env2 → GD → Prop} (tk : X.Tk) (c : Cls X.K C) (p : MethD X.prog X.w X.K X.mg X.base C m k ps (FCO cx C ns fl (fun _ => []) er f)) (hr : Room j X.A) (nm : (ns.all fun n => !(m == n)) = true)
    (h : WE X o r G fun x r1 G1 => ∃ s q fp, x = .sh (.adr q) ∧ obA C q ns (fl s) fp G1 ∧ (f s ()).sat (fun v => Q (er v) r1 G1) (fun xm => X.QX (xnOf cx xm) r1 G1)) (hj : k ≤ j := by omega)
    (ht : eval (.Call (.Attribute o m apos) [] [] pos) X.env = (do
      let ov ← eval o X.env
      standAt apos.atName
      let (f, first) ← holding [ov] (getMethod ov m pl)
      callWith pos f first (backTo pos (starEach [] X.env)) (backToKw pos (keywordEach [] X.env))) := by rfl) : WE X (.Call (.Attribute o m apos) [] [] pos) r G Q :=
  we_methO0 tk c p hr (h.mono fun x r1 G1 ⟨s, q, fp, hx, hP, hs⟩ => by
    obtain ⟨ds, hG⟩ := hP.own
    exact ⟨q, ns, ds, hx, hG, nm, s, (), q, fp, rfl, hP, hs⟩) hj ht
theorem we_propC {m : Str} {C : Addr} {k j : Nat} {ns : List Str} {fl : σT → List Fld} {er : R → Res} {f : σT → Unit → Out R} {Q : Res → Env2 → GD → Prop} (c : Cls X.K C) (p : PropD X.prog X.w X.K X.mg X.base C m k (FCO cx C ns fl (fun _ => []) er f)) (hr : Room j X.A)
    (h : WE X e r G fun x r1 G1 => ∃ s q fp, x = .sh (.adr q) ∧ obA C q ns (fl s) fp G1 ∧ (f s ()).sat (fun v => Q (er v) r1 G1) (fun _ => False)) (hj : k + 1 ≤ j := by omega)
    (hb : attributeBase e m X.env (eval e X.env) = eval e X.env := by rfl) : WE X (.Attribute e m pos) r G Q :=
  we_propO c p hr (h.mono fun x r1 G1 ⟨s, q, fp, hx, hP, hs⟩ => by
    obtain ⟨ds, hG⟩ := hP.own
    exact ⟨q, ns, ds, hx, hG, s, (), q, fp, rfl, hP, hs⟩) hj hb
/-- a method that changes the object -/
theorem we_methM {m : Str} {C : Addr} {k j : Nat} {ps : List Str} {pl : Sem Bool} {ns : List Str} {fl : σT → List Fld} {en : A → List D} {er : R → Res} {f : σT → A → Out (R × σT)} {Q : Res → Env2 → GD → Prop} (tk : X.Tk) (c : Cls X.K C) (p : MethD X.prog X.w X.K X.mg X.base C m k ps (FMO cx C ns fl en er f)) (hr : Room j X.A) (nm : (ns.all fun n => !(m == n)) = true)
    (h : WE X o r G fun x r1 G1 => ∃ s q fp, x = .sh (.adr q) ∧ obA C q ns (fl s) fp G1 ∧ WA X (e :: es) r1 G1 fun as r2 G2 => ∃ a fp2, as = en a ∧ obA C q ns (fl s) fp2 G2 ∧
      (f s a).sat (fun v => ∀ fp' G', obA C q ns (fl v.2) fp' G' → Frm fp2 G2 fp' G' → Q (er v.1) r2 G') (fun xm => ∀ fp' G', obA C q ns (fl s) fp' G' → Frm fp2 G2 fp' G' → X.QX (xnOf cx xm) r2 G')) (hj : k ≤ j := by omega)
    (hst : starEach (e :: es) X.env = (false, eval e X.env) :: starEach es X.env := by rfl) (hpl : (backTo pos (starEach es X.env)).any (·.1) = false := by rfl)
    (ht : eval (.Call (.Attribute o m apos) (e :: es) [] pos) X.env = (do
      let ov ← eval o X.env
      standAt apos.atName
      let (f, first) ← holding [ov] (getMethod ov m pl)
      callWith pos f first (backTo pos (starEach (e :: es) X.env)) (backToKw pos (keywordEach [] X.env))) := by rfl) : WE X (.Call (.Attribute o m apos) (e :: es) [] pos) r G Q :=
  we_methO tk c p hr (h.mono fun x r1 G1 ⟨s, q, fp, hx, hP, h2⟩ => by
    obtain ⟨ds, hG⟩ := hP.own
    exact ⟨q, ns, ds, hx, hG, nm, WA.mono h2 fun as r2 G2 ⟨a, fp2, ha, hP2, hs⟩ => by subst ha; exact ⟨s, a, q, fp2, rfl, hP2, hs⟩⟩) hj hst hpl ht
/-- C(..) -/
theorem we_makeC {x : Str} {C : Addr} {k j : Nat} {ps : List Str} {ns : List Str} {fl : σT → List Fld} {en : A → List D} {f : A → Out σT} {Q : Res → Env2 → GD → Prop} (tk : X.Tk) (M : MakeO X.prog X.w X.K X.mg X.base x C k ps (FIO cx C ns fl en f)) (hr : Room j X.A) (hg : Gl X x)
    (h : WA X (e :: es) r G fun ds r1 G1 => ∃ a, ds = en a ∧ (f a).sat (fun s => ∀ p fp G', obA C p ns (fl s) fp G' → Frm [] G1 fp G' → Q (.sh (.adr p)) r1 G') (fun xm => ∀ G', (∀ b, G1 b ≠ none → G' b = G1 b) → X.QX (xnOf cx xm) r1 G')) (hj : k + 1 ≤ j := by omega)
    (hdb : (x == ("__debug__" : Str)) = false := by decide) (he : starEach (e :: es) X.env = (false, eval e X.env) :: starEach es X.env := by rfl) (hpl : (backTo pos (starEach es X.env)).any (·.1) = false := by rfl) : WE X (.Call (.Name x p0) (e :: es) [] pos) r G Q :=
  we_makeO tk M hr hg (WA.mono h fun ds r1 G1 ⟨a, ha, hs⟩ p dx h1 h2 h3 => by
    subst ha
    refine ⟨a, p, dx, G1, rfl, rfl, h1, h2, h3, hs.imp (fun s q fp' G' hP hF => ⟨rfl, q p fp' G' hP hF⟩) fun xm q => q⟩) hj hdb he hpl
end
open Out (Rt)
section
variable {X : Cy} {e a b c o : Expr} {es : List Expr} {st : Stmt} {sts rest : List Stmt} {r : Env2} {G : GD} {pos apos apos2 cpos p0 : Pos} {D0 : EndsD} {σT A R α : Type} {cx : Nat → Addr}
/-- self.f.append(e) -/
theorem we_appF {f : Str} {C : Addr} {ns : List Str} {fs : List Fld} {fe : α → D} {xs : List α} {Q : Res → Env2 → GD → Prop} (c : Cls X.K C) (n : NoAttr X.K C f) (hl : (ns.zip fs).lookup f = some (.mu (xs.map fe))) (hpl : ∀ x, (putFl f x ns fs).length = fs.length)
    (h : WE X o r G fun x r1 G1 => ∃ p fp, x = .sh (.adr p) ∧ obA C p ns fs fp G1 ∧ WE X e r1 G1 fun y r2 G2 => ∃ z r3, fz r2 y = some (fe z, r3) ∧ G2 = G1 ∧ xs.length < LIM ∧ ∀ G', obA C p ns (putFl f (.mu ((xs ++ [z]).map fe)) ns fs) fp G' → Frm fp G1 fp G' → Q (.sh .non) r3 G')
    (hb : attributeBase o f X.env (eval o X.env) = eval o X.env := by rfl) (hbase : attributeBase (.Attribute o f apos2) "append" X.env (eval (.Attribute o f apos2) X.env) = eval (.Attribute o f apos2) X.env := by rfl)
    (hfew : ((backTo cpos (starEach [e] X.env)).all (fun x => !x.1) && (backToKw cpos (keywordEach [] X.env)).all (fun x => x.1.isSome) && decide (([e] : List Expr).length + ([] : List Keyword).length + (if ([] : List Keyword).isEmpty then 0 else 1) < 30)) = true := by rfl)
    (hline : (apos.endLine == cpos.line) = true := by rfl) (hs : starEach [e] X.env = (false, eval e X.env) :: starEach [] X.env := by rfl) (hplain : (backTo cpos (starEach [] X.env)).any (·.1) = false := by rfl) :
    WE X (.Call (.Attribute (.Attribute o f apos2) "append" apos) [e] [] cpos) r G Q :=
  we_appendG (f := fe) (we_fldM c n hl (h.mono fun x r1 G1 ⟨p, fp, hx, hP, h2⟩ => ⟨p, fp, hx, hP, fun g hg hup => ⟨g, xs, rfl, hg, h2.mono fun y r2 G2 ⟨z, r3, k1, k2, k3, k4⟩ => by
    subst k2
    exact ⟨z, r3, k1, hg, k3, k4 _ (hup _).1 (hup _).2⟩⟩⟩) hpl hb) hbase hfew hline hs hplain
/-- self.f.extend(e) -/
theorem we_extF {f : Str} {C : Addr} {ns : List Str} {fs : List Fld} {fe : α → D} {xs : List α} {Q : Res → Env2 → GD → Prop} (c : Cls X.K C) (n : NoAttr X.K C f) (hl : (ns.zip fs).lookup f = some (.mu (xs.map fe))) (hpl : ∀ x, (putFl f x ns fs).length = fs.length)
    (h : WE X o r G fun x r1 G1 => ∃ p fp, x = .sh (.adr p) ∧ obA C p ns fs fp G1 ∧ WE X e r1 G1 fun y r2 G2 => ∃ zs r3, fz r2 y = some (.lst (List.map fe zs), r3) ∧ G2 = G1 ∧ xs.length + zs.length ≤ LIM ∧ ∀ G', obA C p ns (putFl f (.mu ((xs ++ zs).map fe)) ns fs) fp G' → Frm fp G1 fp G' → Q (.sh .non) r3 G')
    (hb : attributeBase o f X.env (eval o X.env) = eval o X.env := by rfl) (hbase : attributeBase (.Attribute o f apos2) "extend" X.env (eval (.Attribute o f apos2) X.env) = eval (.Attribute o f apos2) X.env := by rfl)
    (hfew : ((backTo cpos (starEach [e] X.env)).all (fun x => !x.1) && (backToKw cpos (keywordEach [] X.env)).all (fun x => x.1.isSome) && decide (([e] : List Expr).length + ([] : List Keyword).length + (if ([] : List Keyword).isEmpty then 0 else 1) < 30)) = true := by rfl)
    (hline : (apos.endLine == cpos.line) = true := by rfl) (hs : starEach [e] X.env = (false, eval e X.env) :: starEach [] X.env := by rfl) (hplain : (backTo cpos (starEach [] X.env)).any (·.1) = false := by rfl) :
    WE X (.Call (.Attribute (.Attribute o f apos2) "extend" apos) [e] [] cpos) r G Q :=
  we_extendG (f := fe) (we_fldM c n hl (h.mono fun x r1 G1 ⟨p, fp, hx, hP, h2⟩ => ⟨p, fp, hx, hP, fun g hg hup => ⟨g, xs, rfl, hg, h2.mono fun y r2 G2 ⟨zs, r3, k1, k2, k3, k4⟩ => by
    subst k2
    exact ⟨zs, r3, k1, hg, k3, k4 _ (hup _).1 (hup _).2⟩⟩⟩) hpl hb) hbase hfew hline hs hplain
end
open Out (Rt)
open Out (Rt)
open Out (Rt)
open Out (Rt)
def bhA (b g : Addr) (x : Bh) : As := fun fp G => fp = [b, g] ∧ g ≠ b ∧ G b = some (.lst [.int x.1.2.1, .adr g, .int x.1.2.2]) ∧ G g = some (.lst (x.1.1.map D.int))
theorem bhA_ok (b g : Addr) (x : Bh) : AOk (bhA b g x) := by
  refine ⟨?_, ?_⟩
  · rintro fp G ⟨rfl, _, h1, h2⟩ a ha
    rcases List.mem_cons.mp ha with rfl | ha
    · exact ⟨_, h1⟩
    · rw [List.mem_singleton] at ha; subst ha; exact ⟨_, h2⟩
  · rintro fp G G' ⟨rfl, hn, h1, h2⟩ h
    exact ⟨rfl, hn, by rw [h b (by simp)]; exact h1, by rw [h g (by simp)]; exact h2⟩
theorem bxH_self {b g : Addr} {x : Bh} {fp : List Addr} {G : GD} (h : bhA b g x fp G) : G = bxH G b g x := by
  obtain ⟨_, hn, h1, h2⟩ := h
  funext a
  unfold bxH
  by_cases e : a = b
  · subst e; rw [updG_same]; exact h1
  · rw [updG_ne e]
    by_cases e2 : a = g
    · subst e2; rw [updG_same]; exact h2
    · rw [updG_ne e2]
theorem GS.boxH {Ps : List As} {G : GD} (h : GS Ps G) (i : Nat) {b g : Addr} {x : Bh} (hi : Ps[i]? = some (bhA b g x)) : g ≠ b ∧ G = bxH G b g x ∧ ∀ x', GS (Ps.set i (bhA b g x')) (bxH G b g x') := by
  obtain ⟨fp, _, h1, h2⟩ := h.at i hi
  obtain ⟨hf, hn, k1, k2⟩ := id h1
  refine ⟨hn, bxH_self h1, fun x' => h2 _ [b, g] _ (bhA_ok b g x') ⟨rfl, hn, updG_same, ?_⟩ ⟨fun a ha _ => ?_, fun a ha => .inl (by rw [hf]; exact ha)⟩⟩
  · unfold bxH; rw [updG_ne hn, updG_same]
  · rw [hf] at ha
    unfold bxH
    rw [updG_ne (fun z => ha (by simp [z])), updG_ne (fun z => ha (by simp [z]))]
/-- the table of a law's own code is a part, too -/
def tabA (P : Addr) (q : Str) : As := fun fp G => fp = [P] ∧ G P = some (.tab q)
theorem tabA_ok (P : Addr) (q : Str) : AOk (tabA P q) := by
  refine ⟨?_, ?_⟩
  · rintro fp G ⟨rfl, h1⟩ a ha
    rw [List.mem_singleton] at ha; subst ha; exact ⟨_, h1⟩
  · rintro fp G G' ⟨rfl, h1⟩ h
    exact ⟨rfl, by rw [h P (by simp)]; exact h1⟩
theorem GS.tab {Ps : List As} {G : GD} (h : GS Ps G) (i : Nat) {P : Addr} {q : Str} (hi : Ps[i]? = some (tabA P q)) : G P = some (.tab q) := by
  obtain ⟨fp, _, h1, _⟩ := h.at i hi
  exact h1.2
open Out (Rt)
section
open PySem.W PySem.Calls PySem.HandSPX Builtin Builtin.ObjectAttr
section
variable {M : Model} {A : Around} {E : Value → Shared → Prop} {h : Heap} {g : Array GenState} {d : Drawn} {t : Nat} {os : OsState}
variable {nm q : Str} {C N : Addr} {bs bm bmB : List Value} {hdct : Bool} {sn : List Str} {sub : List Value} {ab : Bool} {col : Option Bool} {dd : Option Addr} {k0 k1 k2 k3 k5 : Option Value} {B newId initId : String} {kw : List (Str × Value)}
theorem ck_newK (F : ExcBaseFacts B newId initId bmB) (hT : ∀ X : String, bm.contains (.type X) = bmB.contains (.type X)) {Q : Unit → Shared → Prop}
    (hC : h.get? C = some (excClassObj nm q C N bs bm hdct sn sub ab col dd k0 k1 k2 k3 k5 newId)) (hq : Q () ⟨h, g, d, t, os⟩) : wpAny M A (checkBuiltinCall newId ⟨[.ref C], kw⟩) Q E ⟨h, g, d, t, os⟩ := by
  have hc : (Value.ref C :: bm).contains (.type B) = true := by rw [List.contains_cons, hT, F.hasB, Bool.or_true]
  have hs := F.noStar
  simp only [checkBuiltinCall, F.newKind, F.newSplit, F.newRow]
  repeat (first | refine wpAny_loadPart_at hC ?_ | (refine wpAny_isSubtype_exc hC ?_; rw [hc]) | refine wpAny_staticBase_exc hC ?_ | refine wpAny_madeBy_exc hC ?_ | simp only [bne_self_eq_false, Bool.false_eq_true, if_false] | wp_step)
  exact hq
theorem ck_typeK (hC : h.get? C = some (excClassObj nm q C N bs bm hdct sn sub ab col dd k0 k1 k2 k3 k5 newId)) {Q : Unit → Shared → Prop} (hq : Q () ⟨h, g, d, t, os⟩) : wpAny M A (checkBuiltinCall "type.__call__" ⟨[.ref C], kw⟩) Q E ⟨h, g, d, t, os⟩ := by
  have f3 := tc_sub
  have hT : (⟨h, g, d, t, os⟩ : Shared).TypeIs (.ref C) "type" := ⟨_, hC, rfl⟩
  simp only [checkBuiltinCall, tc_kind, tc_split]
  repeat (any_goals (first | assumption | with_reducible refine wpAny_loadPart_at hC ?_ | with_reducible refine wpAny_onRaise ?_ | with_reducible refine wpAny_map ?_ | wp_step))
end
section
variable {prog : Program} {w : World} {A : Around} {E : Value → Shared → Prop} {R : Result → Shared → Prop} {h : Heap} {g : Array GenState} {d : Drawn} {t : Nat} {os : OsState}
variable {nm q : Str} {C N : Addr} {bs bm bmB : List Value} {hdct : Bool} {sn : List Str} {sub : List Value} {ab : Bool} {col : Option Bool} {dd : Option Addr} {k0 k1 k2 k3 k5 : Option Value} {B newId initId : String} {kw : List (Str × Value)}
theorem newK (F : ExcBaseFacts B newId initId bmB) (hT : ∀ X : String, bm.contains (.type X) = bmB.contains (.type X))
    (hC : h.get? C = some (excClassObj nm q C N bs bm hdct sn sub ab col dd k0 k1 k2 k3 k5 newId)) (hq : R (.ok (.ret (.ref (h.objs.size + 1)))) ⟨(h.push (kdv_tup [])).push (excO C h.objs.size), g, d, t, os⟩) :
    codeAny (model prog w) A (.builtin newId ⟨[.ref C], kw⟩) R ⟨h, g, d, t, os⟩ := by
  have he := F.ends
  have c1 : (Value.ref C :: bm).contains (.type B) = true := by rw [List.contains_cons, hT, F.hasB, Bool.or_true]
  have c2 : (Value.ref C :: bm).contains (.type "AttributeError") = false := by rw [List.contains_cons, hT, F.noAttr]; rfl
  have c3 : (Value.ref C :: bm).contains (.type "NameError") = false := by rw [List.contains_cons, hT, F.noName]; rfl
  refine codeAny_builtinAt F.entry ?_
  unfold Builtin.«BaseException.__new__»
  refine _root_.PySem.wpAt_bind ?_
  show _root_.PySem.wpAt _ _ _ (stack >>= _) _ _ _
  refine _root_.PySem.wpAt_bind (_root_.PySem.wpAt_stack fun p below => _root_.PySem.wpAt_of_wpAny ?_)
  wp_walk
  refine _root_.PySem.wpAt_of_wpAny ?_
  rw [F.owner]
  repeat (first | with_reducible refine wpAny_madeHere_exc F.canon hC ?_ | with_reducible refine wpAny_loadPart_at hC ?_ | (with_reducible refine wpAny_isSubtype_exc hC ?_; first | rw [c1] | rw [c2] | rw [c3]) | wp_step)
  show R _ _
  rw [Heap.size_push]
  exact hq
theorem typeK (F : ExcBaseFacts B newId initId bmB) (hT : ∀ X : String, bm.contains (.type X) = bmB.contains (.type X)) {fI : Addr} {Q : Fin → Shared → Prop}
    (hC : h.get? C = some (excClassObj nm q C N bs bm hdct sn sub ab col dd k0 k1 k2 k3 k5 newId))
    (hi : W.Looks (model prog w) h (typeLookup (.ref C) "__init__") (some (.ref fI))) (hb : ∀ self, W.Looks (model prog w) h (bindSpecial (.ref fI) self) (.ref fI, [self]))
    (hq : codeAny (model prog w) A (.call (.ref fI) ⟨[.ref (h.objs.size + 1)], kw⟩)
      (fun r s' => match r with | .ok (.ret v) => v = .none ∧ Q (.done (.ret (.ref (h.objs.size + 1)))) s' | .ok _ => False | .error e => E e s')
      ⟨(h.push (kdv_tup [])).push (excO C h.objs.size), g, d, t, os⟩) :
    wpAny (model prog w) A (Builtin.«type.__call__» ⟨[.ref C], kw⟩) Q E ⟨h, g, d, t, os⟩ := by
  repeat (first | with_reducible refine wpAny_loadPart_at hC ?_ | with_reducible refine wpAny_madeBy_exc hC ?_ | wp_step)
  refine codeAny_call_builtin_code (Code.quiet_builtin _ F.quiet) (ck_newK F hT hC ?_)
  refine newK F hT hC ?_
  show wpAny _ _ _ _ _ _
  have k : ∀ b o, h.get? b = some o → ((h.push (kdv_tup [])).push (excO C h.objs.size)).get? b = some o := fun b o e => Heap.get?_push_of_some _ (Heap.get?_push_of_some _ e)
  have hC1 := k _ _ hC
  have hget : ((h.push (kdv_tup [])).push (excO C h.objs.size)).get? (h.objs.size + 1) = some (excO C h.objs.size) := by heap_get
  have hcC : (Value.ref C :: bm).contains (.ref C) = true := by simp
  have i1 := hi.keeps k
  have b1 := (hb (.ref (h.objs.size + 1))).keeps k
  unfold isInstance
  repeat (first | with_reducible refine wpAny_loadPart_at hget ?_ | (with_reducible refine wpAny_isSubtype_exc hC1 ?_; rw [hcC]) | wp_step)
  show wpAny _ _ (typeLookup (.ref C) _) _ _ _
  refine i1.at ?_
  refine wpAny_holding (wpAny_bind (b1.at ?_))
  refine wpAny_bind (wpAny_call (codeAny_mono hq fun r s' z => ?_))
  rcases r with e | (v | _ | _ | _) <;> first | exact z | exact z.elim | skip
  obtain ⟨rfl, z⟩ := z
  first
    | exact wpAny_pure (wpAny_pure z)
    | (wp_walk; exact z)
theorem callK (F : ExcBaseFacts B newId initId bmB) (hT : ∀ X : String, bm.contains (.type X) = bmB.contains (.type X)) {fI : Addr}
    (hC : h.get? C = some (excClassObj nm q C N bs bm hdct sn sub ab col dd k0 k1 k2 k3 k5 newId))
    (hi : W.Looks (model prog w) h (typeLookup (.ref C) "__init__") (some (.ref fI))) (hb : ∀ self, W.Looks (model prog w) h (bindSpecial (.ref fI) self) (.ref fI, [self]))
    (hq : codeAny (model prog w) (A.under (.builtin "type.__call__" ⟨[.ref C], kw⟩)) (.call (.ref fI) ⟨[.ref (h.objs.size + 1)], kw⟩) (W.InitBack (h.objs.size + 1) R)
      ⟨(h.push (kdv_tup [])).push (excO C h.objs.size), g, d, t, os⟩) :
    codeAny (model prog w) A (.call (.ref C) ⟨[], kw⟩) R ⟨h, g, d, t, os⟩ := by
  have f1 := tc_lookup
  have f2 := tc_bind (.ref C)
  have hTy : (⟨h, g, d, t, os⟩ : Shared).TypeIs (.ref C) "type" := ⟨_, hC, rfl⟩
  refine codeAny_of_tree ?_
  show wpAny _ _ (callAny (.ref C) _) _ _ _
  repeat (any_goals (first | assumption | with_reducible refine wpAny_loadPart_at hC ?_ | wp_step))
  refine ⟨rfl, ?_⟩
  refine codeAny_call_builtin_at (Code.quiet_builtin _ (by decide +kernel)) entry_typeCall (ck_typeK hC (typeK F hT hC hi hb ?_))
  refine codeAny_mono hq fun r s' z => ?_
  rcases r with e | (v | _ | _ | _) <;> first | exact z | skip
end
section
variable {prog : Program} {w : World} {A : Around} {E : Value → Shared → Prop} {base : Heap} {K : Frag} {mg mb m : Str → Option Value}
/-- what is known of the def -/
structure XiF (P : Program) (K : Frag) (q : Str) (scope : Scope) (C f cc cda : Addr) (fd : FuncData) : Prop where
  sup : ks_superIn K C C "__init__" = some (some (.builtin "ValueError.__init__"))
  self : mroIn K C (.ref C) = some true
  isV : subIn K (.ref C) (.type "ValueError") = some true
  any : nsIn K cStatics "thirdparty.any" = some none
  fn : ∃ oc od osl, K.lookup f = some ⟨oc, od, .func fd, osl⟩
  par : ∃ ar : Arg, (fd.params.posonlyargs ++ fd.params.args).head? = some ar ∧ ar.arg = "self"
  code : ∃ ccl cdd vs ccs file tf, K.lookup cda = some ⟨ccl, cdd, .fields vs, ccs⟩ ∧ vs[2]? = some (.str file tf) ∧ ((P.main.file : Str) == file) = true
  cell : ∃ cl cld csl, K.lookup cc = some ⟨cl, cld, .cell (some (.ref C)), csl⟩
  hks : scope.names.lookup ("super" : Str) = some .globalImplicit
  hkc : scope.names.lookup ("__class__" : Str) = some .free
  hkl : scope.names.lookup ("self" : Str) = some .local
  kind : scope.kind = .function
  top : (P.main.scope.names.lookup ("super" : Str)).isSome = false
theorem sup_run {body : List Stmt} {q : Str} {scope : Scope} {C f cc cda L x t0 : Addr} {fd : FuncData} {hp : Heap} {g : Array GenState} {d : Drawn} {t : Nat} {os : OsState} {msg : Str} {j : Nat} {p0 p1 p2 p3 p4 p5 : Pos} {Q : Flow → Shared → Prop}
    (T : L2.OexC K C) (Fa : XiF prog K q scope C f cc cda fd) (KI : K.In base) (hg : base.Ns mainGlobals mg) (hms : mg "super" = none) (hb : base.Ns builtinsNs mb) (hbb : ∀ y : Str, y ≠ "__name__" → mb y = bootBuiltins y)
    (hi : interactive (ksEnv q scope L f (.ref cda) cc) = false) (he : ∃ pl, eval (.Call (.Attribute (.Call (.Name "super" p0) [] [] p1) "__init__" p2) [.Constant (.str msg) j p3] [] p4) (ksEnv q scope L f (.ref cda) cc) = (do
      let ov ← attributeBase (.Call (.Name "super" p0) [] [] p1) "__init__" (ksEnv q scope L f (.ref cda) cc) (eval (.Call (.Name "super" p0) [] [] p1) (ksEnv q scope L f (.ref cda) cc))
      standAt p2.atName
      let (fv, first) ← holding [ov] (getMethod ov "__init__" pl)
      callWith p4 fv first (backTo p4 (starEach [.Constant (.str msg) j p3] (ksEnv q scope L f (.ref cda) cc))) []))
    (k : ∀ b o, base.get? b = some o → hp.get? b = some o) (hns : hp.Ns L m) (hv : m "self" = some (.ref x)) (hx : hp.get? x = some (excO C t0))
    (hq : ∀ (h' : Heap) (t1 : Addr) (tk : Nat), (∀ b o, b ≠ x → hp.get? b = some o → h'.get? b = some o) → h'.get? x = some (excO C t1) → Q .next ⟨h', g, d, tk, os⟩) :
    _root_.PySem.wpAt (model prog w) A (.func body (ksEnv q scope L f (.ref cda) cc)) (exec (.Expr (.Call (.Attribute (.Call (.Name "super" p0) [] [] p1) "__init__" p2) [.Constant (.str msg) j p3] [] p4) p5) (ksEnv q scope L f (.ref cda) cc)) Q E ⟨hp, g, d, t, os⟩ := by
  have X : K.In hp := KI.keeps k
  obtain ⟨oc, od, osl, hfn⟩ := Fa.fn
  obtain ⟨ar, har, harg⟩ := Fa.par
  obtain ⟨ccl, cdd, vs, ccs, file, tf, hcode, hvs, hfile⟩ := Fa.code
  obtain ⟨cl, cld, csl, hcell⟩ := Fa.cell
  obtain ⟨nm, q', N, bs, bm, sn, sub, ab, col, dd, k0, k1, k2, k3, k5, hC, hbm⟩ := T.cls
  have hCg := X _ _ hC
  obtain ⟨pl, he⟩ := he
  refine ks_wpAt_Expr_any (ks_wpAt_MethodCall (pl := pl) ?_ he) hi
  refine ks_wpAt_super_base (env := ksEnv q scope L f (.ref cda) cc) Fa.hks Fa.hkc (by decide) rfl (X _ _ hfn) rfl har rfl (X _ _ hcode) rfl hvs hfile Fa.top ?_
  refine ks_loadName_global Fa.kind Fa.hks (loadGlobal_builtin (env := ksEnv q scope L f (.ref cda) cc) (hg.keeps k) hms (hb.keeps k) ((hbb _ (by decide)).trans Boot.«super») ⟨rfl, ?_⟩)
  refine wpAny_loadName_free Fa.kind Fa.hkc rfl ⟨_, X _ _ hcell, rfl⟩ ?_
  rw [harg]
  refine wpAny_loadName_local Fa.kind Fa.hkl hns hv ?_
  refine ks_wpAny_isType_cls hCg rfl ⟨rfl, ?_⟩
  refine ks_wpAny_call_super hCg rfl hx rfl (fun c e => by cases e) (looks_mroIn X Fa.self) (fun h2 e2 k2 => ?_)
  have X2 : K.In h2 := X.keeps k2
  have hx2 := k2 _ _ hx
  have I2 : InstAt h2 x (excO C t0) C none := ⟨hx2, rfl, rfl, trivial⟩
  have hI : Looks (model prog w) h2 (isInstance (.ref x) (.type "ValueError")) true := I2.type.andThen (looks_subIn X2 Fa.isV)
  have hm := Fa.sup
  cases hcd : clsIn K C with
  | none => unfold ks_superIn at hm; rw [hcd] at hm; cases hm
  | some cd =>
    unfold ks_superIn at hm
    rw [hcd] at hm
    refine kxs_getMethod kxs_ValueError e2 (looks_opaque X2 Fa.any) (l₀ := cd.mro) (fun A Q E s k q => wpAny_bind ((looks_clsIn X2 hcd) A _ E s k (wpAny_pure q))) rfl X2 hm hI (ks_ne X2 I2 hcd) (by decide) ?_
    dsimp only
    refine kxs_callWith (i := "ValueError.__init__") (x := x) (by rfl) (evalArgs_plain ?_)
    show wpAny _ _ (spliced ((false, eval (.Constant (.str msg) j p3) (ksEnv q scope L f (.ref cda) cc)) :: backTo p4 (starEach [] (ksEnv q scope L f (.ref cda) cc)))) _ _ _
    refine spliced_cons (wpAny_Constant_str (spliced_nil ⟨?_, ?_⟩))
    · exact Heap.get?_push_at rfl rfl
    · refine wpAny_call (codeAny_of_tree ?_)
      show wpAny _ A.in1 (callAny (.ref _) ⟨_, []⟩) _ _ _
      simp only [callAny]
      refine wpAny_bind (wpAny_load (Heap.get?_push_at rfl rfl) ?_)
      simp only [kxs_mw, show (Value.type "method-wrapper" == Value.type "method" || Value.type "method-wrapper" == Value.type "builtin_function_or_method" || Value.type "method-wrapper" == Value.type "method-wrapper") = true by decide, if_true]
      refine KFB.if_so (by decide) ?_
      have kk : ∀ b o, h2.get? b = some o → (h2.push (kxs_mw "ValueError.__init__" x)).get? b = some o := fun b o e => Heap.get?_push_of_some _ e
      refine wpAny_bind (check_bound_init F.excBase_ValueError.toExcCallFacts (kk _ _ (k2 _ _ hCg)) (kk _ _ hx2) rfl ?_)
      refine wpAny_bind (wpAny_pure (wpAny_pure ?_))
      refine ⟨plainId_quiet F.excBase_ValueError.init.plain _, codeAny_builtin F.excBase_ValueError.initEntry ?_⟩
      refine exc_init_tree (cls := .ref C) (t0 := t0) (dv := none) (c2 := .none) (c3 := .none) (b4 := .bool false) (kk _ _ hx2) (by show (1 : Nat) ≤ sizeLine; rw [sizeLine_eq]; decide) fun h' k' e' _ => ?_
      exact hq h' _ _ (fun b o hb ho => k' b o hb (kk _ _ (k2 _ _ ho))) e'
/-- self.f = f, the first -/
theorem sto_new {body : List Stmt} {q f : Str} {scope : Scope} {C fI cc cda L x t1 : Addr} {hp : Heap} {g : Array GenState} {d : Drawn} {t : Nat} {os : OsState} {v : Value} {p6 p7 p8 p9 : Pos} {Q : Flow → Shared → Prop}
    (T : L2.OexC K C) (hno : findIn K (.ref C) f = some none) (X : K.In hp) (hk : scope.kind = .function) (hkl : scope.names.lookup ("self" : Str) = some .local) (hkf : scope.names.lookup f = some .local) (hdf : (f == ("__debug__" : Str)) = false)
    (hns : hp.Ns L m) (hv : m "self" = some (.ref x)) (hf : m f = some v) (hx : hp.get? x = some (excO C t1))
    (hq : ∀ (h' : Heap) (tk : Nat) (dx : Addr), (∀ b o, b ≠ x → hp.get? b = some o → h'.get? b = some o) → hp.objs.size ≤ dx → dx ≠ x → h'.get? x = some { cls := .ref C, dict := some dx, data := .fields #[.ref t1, .none, .none, .none, .bool false, .none] } → h'.Ns1 dx (fun y => if y = f then some v else none) → Q .next ⟨h', g, d, tk, os⟩)
    (hs : swapsWith (.Name f p8) (some (.Attribute (.Name "self" p6) f p7)) p9.line (ksEnv q scope L fI (.ref cda) cc) = pure false) :
    _root_.PySem.wpAt (model prog w) A (.func body (ksEnv q scope L fI (.ref cda) cc)) (exec (.Assign [.Attribute (.Name "self" p6) f p7] (.Name f p8) p9) (ksEnv q scope L fI (.ref cda) cc)) Q E ⟨hp, g, d, t, os⟩ := by
  obtain ⟨nm, q', N, bs, bm, sn, sub, ab, col, dd, k0, k1, k2, k3, k5, hC, hbm⟩ := T.cls
  have hcl : clsIn K C = some { name := nm, bases := bs, mro := .ref C :: bm, ns := N, qualname := q', hasDict := true, slotNames := sn, subclasses := sub, abstract := ab, collection := col, hasDel := false } := by unfold clsIn; rw [hC] <;> rfl
  refine ks_wpAt_Assign_Attr (wpAt_of_wpAny (wpAny_Name (wpAny_loadName_local hk hkf hns hf ?_) hdf)) hs
  refine wpAny_Name (wpAny_loadName_local hk hkl hns hv ?_) (by decide)
  refine set_plain X (ox := excO C t1) (od := none) ⟨hx, rfl, rfl, trivial⟩ T.sa ?_
  exact exc_osa X hx hcl (show refsVE (.ref C :: bm) = true from hbm) rfl hno fun h' tk' dx k' dn dne hx' hn => hq h' tk' dx k' dn dne hx' hn
/-- self.f = f, a further one -/
theorem sto_old {body : List Stmt} {q f : Str} {scope : Scope} {C fI cc cda L x t1 dx : Addr} {hp : Heap} {g : Array GenState} {d : Drawn} {t : Nat} {os : OsState} {v : Value} {m0 : Str → Option Value} {nl : List Str} {p6 p7 p8 p9 : Pos} {Q : Flow → Shared → Prop}
    (T : L2.OexC K C) (hno : findIn K (.ref C) f = some none) (X : K.In hp) (hk : scope.kind = .function) (hkl : scope.names.lookup ("self" : Str) = some .local) (hkf : scope.names.lookup f = some .local) (hdf : (f == ("__debug__" : Str)) = false)
    (hns : hp.Ns L m) (hv : m "self" = some (.ref x)) (hf : m f = some v) (hx : hp.get? x = some { cls := .ref C, dict := some dx, data := .fields #[.ref t1, .none, .none, .none, .bool false, .none] }) (hd : hp.Ns1 dx m0) (hw : Within m0 nl) (hz : nl.length ≤ 1000)
    (hq : ∀ (h' : Heap) (tk : Nat), (∀ b o, b ≠ dx → hp.get? b = some o → h'.get? b = some o) → h'.Ns1 dx (fun y => if y = f then some v else m0 y) → Q .next ⟨h', g, d, tk, os⟩)
    (hs : swapsWith (.Name f p8) (some (.Attribute (.Name "self" p6) f p7)) p9.line (ksEnv q scope L fI (.ref cda) cc) = pure false) :
    _root_.PySem.wpAt (model prog w) A (.func body (ksEnv q scope L fI (.ref cda) cc)) (exec (.Assign [.Attribute (.Name "self" p6) f p7] (.Name f p8) p9) (ksEnv q scope L fI (.ref cda) cc)) Q E ⟨hp, g, d, t, os⟩ := by
  obtain ⟨nm, q', N, bs, bm, sn, sub, ab, col, dd, k0, k1, k2, k3, k5, hC, hbm⟩ := T.cls
  have hcl : clsIn K C = some { name := nm, bases := bs, mro := .ref C :: bm, ns := N, qualname := q', hasDict := true, slotNames := sn, subclasses := sub, abstract := ab, collection := col, hasDel := false } := by unfold clsIn; rw [hC] <;> rfl
  obtain ⟨oD, _, _, hoD, _, _⟩ := hd.count hw
  refine ks_wpAt_Assign_Attr (wpAt_of_wpAny (wpAny_Name (wpAny_loadName_local hk hkf hns hf ?_) hdf)) hs
  refine wpAny_Name (wpAny_loadName_local hk hkl hns hv ?_) (by decide)
  refine set_plain X (ox := { cls := .ref C, dict := some dx, data := .fields #[.ref t1, .none, .none, .none, .bool false, .none] }) (od := some oD) ⟨hx, rfl, rfl, hoD⟩ T.sa ?_
  exact PySem.OEX.osa_old X hx hd hw hz hcl (show refsVE (.ref C :: bm) = true from hbm) rfl hno fun h' tk' k' hn => hq h' tk' k' hn
theorem wpAt_nil {c : Code} {env : Env} {s : Shared} {Q : Flow → Shared → Prop} (h : Q .next s) : _root_.PySem.wpAt (model prog w) A c (execs [] env) Q E s := wpAt_of_wpAny (wpAny_pure h)
end
end
section
open PySem.W PySem.Calls PySem.HandSPX Builtin Builtin.ObjectAttr
section
variable {prog : Program} {w : World} {A : Around} {base : Heap} {K : Frag} {mg mb : Str → Option Value}
abbrev xiE (msg : Str) (j : Nat) (p0 p1 p2 p3 p4 p5 : Pos) : Stmt := .Expr (.Call (.Attribute (.Call (.Name "super" p0) [] [] p1) "__init__" p2) [.Constant (.str msg) j p3] [] p4) p5
abbrev xiS (f : Str) (p6 p7 p8 p9 : Pos) : Stmt := .Assign [.Attribute (.Name "self" p6) f p7] (.Name f p8) p9
abbrev xiD (C t1 dx : Addr) : Obj := { cls := .ref C, dict := some dx, data := .fields #[.ref t1, .none, .none, .none, .bool false, .none] }
/-- how its statements are read -/
structure XiR (q : Str) (scope : Scope) (fI cc cda : Addr) (msg : Str) (j : Nat) (p0 p1 p2 p3 p4 : Pos) : Prop where
  hi : ∀ L, interactive (ksEnv q scope L fI (.ref cda) cc) = false
  he : ∀ L, ∃ pl, eval (.Call (.Attribute (.Call (.Name "super" p0) [] [] p1) "__init__" p2) [.Constant (.str msg) j p3] [] p4) (ksEnv q scope L fI (.ref cda) cc) = (do
      let ov ← attributeBase (.Call (.Name "super" p0) [] [] p1) "__init__" (ksEnv q scope L fI (.ref cda) cc) (eval (.Call (.Name "super" p0) [] [] p1) (ksEnv q scope L fI (.ref cda) cc))
      standAt p2.atName
      let (fv, first) ← holding [ov] (getMethod ov "__init__" pl)
      callWith p4 fv first (backTo p4 (starEach [.Constant (.str msg) j p3] (ksEnv q scope L fI (.ref cda) cc))) [])
  hcell : ∀ y ∈ scope.names, y.2 ≠ .cell
  hco : scope.isCoroutine = false
  hgen : scope.isGenerator = false
structure XiS (q : Str) (scope : Scope) (fI cc cda : Addr) (f : Str) (p6 p7 p8 p9 : Pos) : Prop where
  hs : ∀ L, swapsWith (.Name f p8) (some (.Attribute (.Name "self" p6) f p7)) p9.line (ksEnv q scope L fI (.ref cda) cc) = pure false
  loc : scope.names.lookup f = some .local
  db : (f == ("__debug__" : Str)) = false
  se : (("self" : Str) == f) = false
theorem ns_keep {h h' : Heap} {L x : Addr} {m : Str → Option Value} (hn : h.Ns L m) (hx : L ≠ x) (k : ∀ b o, b ≠ x → h.get? b = some o → h'.get? b = some o) : h'.Ns L m := by
  obtain ⟨oL, es, ep, hL, r⟩ := hn
  exact ⟨oL, es, ep, k _ _ hx hL, r⟩
theorem init1_run {q f msg : Str} {params : Arguments} {scope : Scope} {C fI cc cda x t0 : Addr} {doc pm ct : Value} {an : Option Addr} {hp : Heap} {g : Array GenState} {d : Drawn} {t : Nat} {os : OsState} {v : Value} {j : Nat} {p0 p1 p2 p3 p4 p5 p6 p7 p8 p9 : Pos} {R : Result → Shared → Prop}
    (T : L2.OexC K C) (Fa : XiF prog K q scope C fI cc cda (ksFn "__init__" q params [xiE msg j p0 p1 p2 p3 p4 p5, xiS f p6 p7 p8 p9] scope .none .none doc pm an (.ref cda) ct cc)) (hcd : codeIn K (.ref cda) q = true) (hno : findIn K (.ref C) f = some none)
    (Re : XiR q scope fI cc cda msg j p0 p1 p2 p3 p4) (Se : XiS q scope fI cc cda f p6 p7 p8 p9)
    (KI : K.In base) (hg : base.Ns mainGlobals mg) (hms : mg "super" = none) (hb : base.Ns builtinsNs mb) (hbb : ∀ y : Str, y ≠ "__name__" → mb y = bootBuiltins y) (nl : base.NoLimit) (hroom : A.depth < recursionLimit)
    (k : ∀ b o, base.get? b = some o → hp.get? b = some o) (hbx : base.get? x = none) (hx : hp.get? x = some (excO C t0))
    (hbind : BindsTo ⟨hp, g, d, t, os⟩ (ksFn "__init__" q params [xiE msg j p0 p1 p2 p3 p4 p5, xiS f p6 p7 p8 p9] scope .none .none doc pm an (.ref cda) ct cc) ⟨[.ref x], [(f, v)]⟩ [("self", .ref x), (f, v)])
    (hq : ∀ (h' : Heap) (tk : Nat) (dx t1 : Addr), (∀ b o, b ≠ x → hp.get? b = some o → h'.get? b = some o) → hp.objs.size ≤ dx → dx ≠ x → h'.get? x = some (xiD C t1 dx) → h'.Ns1 dx (fun y => if y = f then some v else none) → R (.ok (.ret .none)) ⟨h', g, d, tk, os⟩) :
    codeAny (model prog w) A (.call (.ref fI) ⟨[.ref x], [(f, v)]⟩) R ⟨hp, g, d, t, os⟩ := by
  have X : K.In hp := KI.keeps k
  obtain ⟨oc, od, osl, hfn⟩ := Fa.fn
  have xlt := Heap.lt_size hx
  refine ks_codeAny_call_defAt (binds := [("self", .ref x), (f, v)]) hroom (X _ _ hfn) rfl (nl.keeps k) (codeRec_of X hcd) rfl hbind Re.hcell (fun y hy => ?_) (fun h₁ hns k₁ => ?_) Re.hco Re.hgen Fa.kind
  · simp only [List.mem_cons, List.not_mem_nil, or_false] at hy
    rcases hy with rfl | rfl
    · exact Fa.hkl
    · exact Se.loc
  have m1 : (fun y => ([("self", Value.ref x), (f, v)] : List (Str × Value)).reverse.lookup y) "self" = some (.ref x) := by
    show List.lookup _ [(f, v), ("self", Value.ref x)] = _
    rw [List.lookup_cons, Se.se]; rfl
  have m2 : (fun y => ([("self", Value.ref x), (f, v)] : List (Str × Value)).reverse.lookup y) f = some v := by
    show List.lookup _ [(f, v), ("self", Value.ref x)] = _
    rw [List.lookup_cons, beq_self_eq_true]
  have hLx : hp.objs.size ≠ x := Nat.ne_of_gt xlt
  have nb : ∀ {b : Addr} {o : Obj}, base.get? b = some o → b ≠ x := fun {b o} e z => by rw [z, hbx] at e; cases e
  refine ks_wpAt_execs_cons (sup_run T Fa KI hg hms hb hbb (Re.hi _) (Re.he _) (fun b o e => k₁ b o (k b o e)) hns m1 (k₁ _ _ hx) (fun h2 t1 tk k2 hx2 => ?_))
  have hns2 := ns_keep hns hLx k2
  have sz2 : hp.objs.size < h2.objs.size := hns2.lt
  refine ks_wpAt_execs_cons (sto_new T hno (KI.keeps fun b o e => k2 b o (nb e) (k₁ b o (k b o e))) Fa.kind Fa.hkl Se.loc Se.db hns2 m1 m2 hx2 (fun h3 tk3 dx k3 dn dne hx3 hn3 => ?_) (Se.hs _))
  refine wpAt_nil ?_
  exact hq h3 tk3 dx t1 (fun b o hbx e => k3 b o hbx (k2 b o hbx (k₁ b o e))) (by omega) dne hx3 hn3
theorem init2_run {q f f2 msg : Str} {params : Arguments} {scope : Scope} {C fI cc cda x t0 : Addr} {doc pm ct : Value} {an : Option Addr} {hp : Heap} {g : Array GenState} {d : Drawn} {t : Nat} {os : OsState} {v v2 : Value} {j : Nat} {p0 p1 p2 p3 p4 p5 p6 p7 p8 p9 r6 r7 r8 r9 : Pos} {R : Result → Shared → Prop}
    (T : L2.OexC K C) (Fa : XiF prog K q scope C fI cc cda (ksFn "__init__" q params [xiE msg j p0 p1 p2 p3 p4 p5, xiS f p6 p7 p8 p9, xiS f2 r6 r7 r8 r9] scope .none .none doc pm an (.ref cda) ct cc)) (hcd : codeIn K (.ref cda) q = true) (hno : findIn K (.ref C) f = some none) (hno2 : findIn K (.ref C) f2 = some none)
    (Re : XiR q scope fI cc cda msg j p0 p1 p2 p3 p4) (Se : XiS q scope fI cc cda f p6 p7 p8 p9) (Se2 : XiS q scope fI cc cda f2 r6 r7 r8 r9) (hff : (f == f2) = false)
    (KI : K.In base) (hg : base.Ns mainGlobals mg) (hms : mg "super" = none) (hb : base.Ns builtinsNs mb) (hbb : ∀ y : Str, y ≠ "__name__" → mb y = bootBuiltins y) (nl : base.NoLimit) (hroom : A.depth < recursionLimit)
    (k : ∀ b o, base.get? b = some o → hp.get? b = some o) (hbx : base.get? x = none) (hx : hp.get? x = some (excO C t0))
    (hbind : BindsTo ⟨hp, g, d, t, os⟩ (ksFn "__init__" q params [xiE msg j p0 p1 p2 p3 p4 p5, xiS f p6 p7 p8 p9, xiS f2 r6 r7 r8 r9] scope .none .none doc pm an (.ref cda) ct cc) ⟨[.ref x], [(f, v), (f2, v2)]⟩ [("self", .ref x), (f, v), (f2, v2)])
    (hq : ∀ (h' : Heap) (tk : Nat) (dx t1 : Addr), (∀ b o, b ≠ x → hp.get? b = some o → h'.get? b = some o) → hp.objs.size ≤ dx → dx ≠ x → h'.get? x = some (xiD C t1 dx) → h'.Ns1 dx (fun y => if y = f2 then some v2 else if y = f then some v else none) → R (.ok (.ret .none)) ⟨h', g, d, tk, os⟩) :
    codeAny (model prog w) A (.call (.ref fI) ⟨[.ref x], [(f, v), (f2, v2)]⟩) R ⟨hp, g, d, t, os⟩ := by
  have X : K.In hp := KI.keeps k
  obtain ⟨oc, od, osl, hfn⟩ := Fa.fn
  have xlt := Heap.lt_size hx
  refine ks_codeAny_call_defAt (binds := [("self", .ref x), (f, v), (f2, v2)]) hroom (X _ _ hfn) rfl (nl.keeps k) (codeRec_of X hcd) rfl hbind Re.hcell (fun y hy => ?_) (fun h₁ hns k₁ => ?_) Re.hco Re.hgen Fa.kind
  · simp only [List.mem_cons, List.not_mem_nil, or_false] at hy
    rcases hy with rfl | rfl | rfl
    · exact Fa.hkl
    · exact Se.loc
    · exact Se2.loc
  have m1 : (fun y => ([("self", Value.ref x), (f, v), (f2, v2)] : List (Str × Value)).reverse.lookup y) "self" = some (.ref x) := by
    show List.lookup _ [(f2, v2), (f, v), ("self", Value.ref x)] = _
    rw [List.lookup_cons, Se2.se]
    show List.lookup _ [(f, v), ("self", Value.ref x)] = _
    rw [List.lookup_cons, Se.se]; rfl
  have m2 : (fun y => ([("self", Value.ref x), (f, v), (f2, v2)] : List (Str × Value)).reverse.lookup y) f = some v := by
    show List.lookup _ [(f2, v2), (f, v), ("self", Value.ref x)] = _
    rw [List.lookup_cons, hff]
    show List.lookup _ [(f, v), ("self", Value.ref x)] = _
    rw [List.lookup_cons, beq_self_eq_true]
  have m3 : (fun y => ([("self", Value.ref x), (f, v), (f2, v2)] : List (Str × Value)).reverse.lookup y) f2 = some v2 := by
    show List.lookup _ [(f2, v2), (f, v), ("self", Value.ref x)] = _
    rw [List.lookup_cons, beq_self_eq_true]
  have hLx : hp.objs.size ≠ x := Nat.ne_of_gt xlt
  have nb : ∀ {b : Addr} {o : Obj}, base.get? b = some o → b ≠ x := fun {b o} e z => by rw [z, hbx] at e; cases e
  refine ks_wpAt_execs_cons (sup_run T Fa KI hg hms hb hbb (Re.hi _) (Re.he _) (fun b o e => k₁ b o (k b o e)) hns m1 (k₁ _ _ hx) (fun h2 t1 tk k2 hx2 => ?_))
  have hns2 := ns_keep hns hLx k2
  have sz2 : hp.objs.size < h2.objs.size := hns2.lt
  refine ks_wpAt_execs_cons (sto_new T hno (KI.keeps fun b o e => k2 b o (nb e) (k₁ b o (k b o e))) Fa.kind Fa.hkl Se.loc Se.db hns2 m1 m2 hx2 (fun h3 tk3 dx k3 dn dne hx3 hn3 => ?_) (Se.hs _))
  have hns3 := ns_keep hns2 hLx k3
  have old : ∀ {b : Addr} {o : Obj}, hp.get? b = some o → b ≠ dx := fun {b o} e => Nat.ne_of_lt (Nat.lt_of_lt_of_le (Heap.lt_size e) (by omega))
  refine ks_wpAt_execs_cons (sto_old (nl := [f]) T hno2 (KI.keeps fun b o e => k3 b o (nb e) (k2 b o (nb e) (k₁ b o (k b o e)))) Fa.kind Fa.hkl Se2.loc Se2.db hns3 m1 m3 hx3 hn3 (fun y hy => ?_) (by show (1 : Nat) ≤ 1000; decide) (fun h4 tk4 k4 hn4 => ?_) (Se2.hs _))
  · by_cases e : y = f
    · rw [e]; exact List.mem_cons_self
    · exact absurd (if_neg e) hy
  refine wpAt_nil ?_
  exact hq h4 tk4 dx t1 (fun b o hbx e => k4 b o (old e) (k3 b o hbx (k2 b o hbx (k₁ b o e)))) (by omega) dne (k4 _ _ dne.symm hx3) hn4
end
/-- the class and its __init__, all that is known -/
structure XK1 (P : Program) (K : Frag) (mg : Str → Option Value) (x f : Str) (C : Addr) : Prop where
  o : OexC K C
  gC : mg x = some (.ref C)
  ms : mg "super" = none
  no : findIn K (.ref C) f = some none
  ex : ∃ (q msg : Str) (params : Arguments) (scope : Scope) (fI cc cda : Addr) (doc pm ct : Value) (an : Option Addr) (j : Nat) (p0 p1 p2 p3 p4 p5 p6 p7 p8 p9 : Pos),
    findIn K (.ref C) "__init__" = some (some (.ref fI)) ∧ typeIn K (.ref fI) = some (.type "function") ∧
    XiF P K q scope C fI cc cda (ksFn "__init__" q params [xiE msg j p0 p1 p2 p3 p4 p5, xiS f p6 p7 p8 p9] scope .none .none doc pm an (.ref cda) ct cc) ∧ codeIn K (.ref cda) q = true ∧
    XiR q scope fI cc cda msg j p0 p1 p2 p3 p4 ∧ XiS q scope fI cc cda f p6 p7 p8 p9 ∧
    ∀ (s : Shared) (u v : Value), BindsTo s (ksFn "__init__" q params [xiE msg j p0 p1 p2 p3 p4 p5, xiS f p6 p7 p8 p9] scope .none .none doc pm an (.ref cda) ct cc) ⟨[u], [(f, v)]⟩ [("self", u), (f, v)]
structure XK2 (P : Program) (K : Frag) (mg : Str → Option Value) (x f f2 : Str) (C : Addr) : Prop where
  o : OexC K C
  gC : mg x = some (.ref C)
  ms : mg "super" = none
  no : findIn K (.ref C) f = some none
  no2 : findIn K (.ref C) f2 = some none
  ne : (f == f2) = false
  ex : ∃ (q msg : Str) (params : Arguments) (scope : Scope) (fI cc cda : Addr) (doc pm ct : Value) (an : Option Addr) (j : Nat) (p0 p1 p2 p3 p4 p5 p6 p7 p8 p9 r6 r7 r8 r9 : Pos),
    findIn K (.ref C) "__init__" = some (some (.ref fI)) ∧ typeIn K (.ref fI) = some (.type "function") ∧
    XiF P K q scope C fI cc cda (ksFn "__init__" q params [xiE msg j p0 p1 p2 p3 p4 p5, xiS f p6 p7 p8 p9, xiS f2 r6 r7 r8 r9] scope .none .none doc pm an (.ref cda) ct cc) ∧ codeIn K (.ref cda) q = true ∧
    XiR q scope fI cc cda msg j p0 p1 p2 p3 p4 ∧ XiS q scope fI cc cda f p6 p7 p8 p9 ∧ XiS q scope fI cc cda f2 r6 r7 r8 r9 ∧
    ∀ (s : Shared) (u v v2 : Value), BindsTo s (ksFn "__init__" q params [xiE msg j p0 p1 p2 p3 p4 p5, xiS f p6 p7 p8 p9, xiS f2 r6 r7 r8 r9] scope .none .none doc pm an (.ref cda) ct cc) ⟨[u], [(f, v), (f2, v2)]⟩ [("self", u), (f, v), (f2, v2)]
section
variable {X : Cx}
/-- the end of C(..): the exception is let go, its dict stands as an exception's dict -/
theorem mk_fin {pins : List (Addr × Obj)} {σ : L2.St} {H : Hp} {Q : XK} {hp h' : Heap} {g : Array GenState} {dr : Drawn} {t t' : Nat} {os : OsState} {C dx t1 : Addr} {us : List Value} {fs : List (Str × V)} {mA : Str → Option Value} (T : OexC X.K C) (I : Inv X pins σ H ⟨hp, g, dr, t, os⟩)
    (k : ∀ b o, b ≠ hp.objs.size + 1 → ((hp.push (kdv_tup us)).push (excO C hp.objs.size)).get? b = some o → h'.get? b = some o) (dn : ((hp.push (kdv_tup us)).push (excO C hp.objs.size)).objs.size ≤ dx) (dne : dx ≠ hp.objs.size + 1)
    (hx : h'.get? (hp.objs.size + 1) = some (xiD C t1 dx)) (hn : h'.Ns1 dx mA) (rel : ∀ f, RelO (fs.lookup f) (mA f)) (q : Q (.ref C) (some dx) (upd H dx (.xd fs))) :
    MkP X pins σ Q (.ref (hp.objs.size + 1)) ⟨h', g, dr, t', os⟩ := by
  rw [Heap.size_push, Heap.size_push] at dn
  obtain ⟨G, g1', g2'⟩ := restrict h' fun b => decide (b ≠ hp.objs.size + 1)
  have gk : ∀ b, b ≠ hp.objs.size + 1 → G.get? b = h'.get? b := fun b hb => g1' b (decide_eq_true hb)
  have ge : G.get? (hp.objs.size + 1) = none := g2' _ (by simp)
  have kk : ∀ b u, hp.get? b = some u → G.get? b = some u := fun b u e => by
    have hb : b ≠ hp.objs.size + 1 := Nat.ne_of_lt (Nat.lt_succ_of_lt (Heap.lt_size e))
    rw [gk b hb]
    exact k b u hb (Heap.get?_push_of_some _ (Heap.get?_push_of_some _ e))
  have J : Inv X pins σ (upd H dx (.xd fs)) ⟨G, g, dr, t', os⟩ := I.laid (t' := t') (a := dx) (o := .xd fs) (h' := G) kk (by show hp.objs.size ≤ dx; omega) ⟨mA, hn.at fun o y => (gk dx dne).trans y, rel⟩
  have na : H (hp.objs.size + 1) = none := I.hok.fresh (Nat.le_succ _)
  refine ⟨hp.objs.size + 1, _, _, ⟨G, g, dr, t', os⟩, _, .ref C, some dx, rfl, J, fun b o e => ?_, ge, hx, ⟨rfl, rfl⟩, rfl, rfl, ?_, rfl, I.bare, raises_own T.exC T.tyC, q⟩
  · by_cases hb : b = hp.objs.size + 1
    · rw [hb, ge] at e; cases e
    · rw [← gk b hb]; exact e
  · rw [upd_ne (Ne.symm dne)]; exact na
def q1of (Q : V → Hp → Prop) : List V → Hp → Prop
  | [y], H => Q y H
  | _, _ => False
def q2of (Q : V → V → Hp → Prop) : List V → Hp → Prop
  | [y, z], H => Q y z H
  | _, _ => False
theorem pmk_kw1 {x f : Str} {C : Addr} {e : Expr} {te : TE} {p pos kpos : Pos} {k : Nat} (Xk : XK1 X.prog X.K X.mg x f C) (hr : Room (k + 1) X.A) (hg : Gl X x) (he : PE X e te)
    (hall : (backToKw pos (keywordEach [⟨some f, e, kpos⟩] X.env)).all (·.1.isSome) = true := by rfl) (hks : (backToKw pos (keywordEach [⟨some f, e, kpos⟩] X.env)).filterMap (·.1) = [f] := by rfl) (hdb : (x == ("__debug__" : Str)) = false := by decide)
    (hpl : ((backTo pos (starEach [] X.env)).any (·.1) || (backToKw pos (keywordEach [⟨some f, e, kpos⟩] X.env)).any (·.1.isNone)) = false := by rfl) :
    PMk X (.Call (.Name x p) [] [⟨some f, e, kpos⟩] pos) (fun σ H Q => te σ H fun y H1 => ∀ d, H1 d = none → Q (.ref C) (some d) (upd H1 d (.xd [(f, y)]))) := by
  intro pins s σ H Q I h
  obtain ⟨q, msg, params, scope, fI, cc, cda, doc, pm, ct, an, j, p0, p1, p2, p3, p4, p5, p6, p7, p8, p9, iC, tI, Fa, hcd, Re, Se, hbind⟩ := Xk.ex
  obtain ⟨nm, q', N, bs, bm, sn, sub, ab, col, dd, k0, k1, k2, k3, k5, hC, hbm⟩ := Xk.o.cls
  refine wpAny_Call_Name_kw (ld_glob I hg Xk.gC ?_ hdb)
  refine callWith_KW0 (h₀ := X.base) I.ok.mod.kin Xk.o.kC hall ?_ hpl
  refine thn ((pk_cons (nm := some f) (kpos := kpos) he pk_nil).run pos pins s σ H (q1of fun y H1 => ∀ d, H1 d = none → Q (.ref C) (some d) (upd H1 d (.xd [(f, y)]))) I (show tCons te tNil σ H (q1of fun y H1 => ∀ d, H1 d = none → Q (.ref C) (some d) (upd H1 d (.xd [(f, y)]))) from h)) fun ws s2 ⟨zs, H2, I2, rz, q2⟩ => ⟨I2.kIn, ?_⟩
  rw [hks]
  obtain ⟨y, v, rfl, rfl, ry⟩ : ∃ y v, zs = [y] ∧ ws = [v] ∧ RelV y v := by
    cases rz with
    | nil => exact q2.elim
    | @cons y v zs' ws' ry rz' =>
      cases rz' with
      | nil => exact ⟨y, v, rfl, rfl, ry⟩
      | cons _ _ => exact q2.elim
  replace q2 : ∀ d, H2 d = none → Q (.ref C) (some d) (upd H2 d (.xd [(f, y)])) := q2
  show wpAny _ _ (call (.ref C) [] [(f, v)]) _ _ _
  obtain ⟨hp, g, dr, tk, os⟩ := s2
  have hsz : hp.objs.size ≤ hp.objs.size + 1 := Nat.le_succ _
  have kk : ∀ b o, hp.get? b = some o → ((hp.push (kdv_tup [])).push (excO C hp.objs.size)).get? b = some o := fun b o e => Heap.get?_push_of_some _ (Heap.get?_push_of_some _ e)
  have hget : ((hp.push (kdv_tup [])).push (excO C hp.objs.size)).get? (hp.objs.size + 1) = some (excO C hp.objs.size) := by heap_get
  obtain ⟨mb, hb1, hb2⟩ := I2.mod.blt
  have hbx : X.base.get? (hp.objs.size + 1) = none := by
    cases e : X.base.get? (hp.objs.size + 1) with
    | none => rfl
    | some o => exact absurd (Heap.lt_size (I2.bk _ _ e)) (Nat.not_lt.mpr hsz)
  refine wpAny_call (callK F.excBase_ValueError (fun Y => refsVE_contains Y bm hbm) (I2.kIn _ _ hC) (looks_findIn I2.kIn iC) (fun self => bind_fn I2.kIn self tI) ?_)
  refine init1_run Xk.o Fa hcd Xk.no Re Se I2.mod.kin I2.mod.glob Xk.ms hb1 hb2 I2.mod.nolimit (hr.make C [] [(f, v)]).depth (fun b o e => kk b o (I2.bk b o e)) hbx hget (hbind _ _ _) fun h' tk' dx t1 k' dn dne hx' hn' => ?_
  exact ⟨rfl, mk_fin Xk.o I2 k' dn dne hx' hn' (relO_put (fs := []) ry fun g => True.intro) (q2 dx (I2.hok.fresh (by rw [Heap.size_push, Heap.size_push] at dn; show hp.objs.size ≤ dx; omega)))⟩
theorem pmk_kw2 {x f f2 : Str} {C : Addr} {e e2 : Expr} {te te2 : TE} {p pos kpos kpos2 : Pos} {k : Nat} (Xk : XK2 X.prog X.K X.mg x f f2 C) (hr : Room (k + 1) X.A) (hg : Gl X x) (he : PE X e te) (he2 : PE X e2 te2)
    (hall : (backToKw pos (keywordEach [⟨some f, e, kpos⟩, ⟨some f2, e2, kpos2⟩] X.env)).all (·.1.isSome) = true := by rfl) (hks : (backToKw pos (keywordEach [⟨some f, e, kpos⟩, ⟨some f2, e2, kpos2⟩] X.env)).filterMap (·.1) = [f, f2] := by rfl) (hdb : (x == ("__debug__" : Str)) = false := by decide)
    (hpl : ((backTo pos (starEach [] X.env)).any (·.1) || (backToKw pos (keywordEach [⟨some f, e, kpos⟩, ⟨some f2, e2, kpos2⟩] X.env)).any (·.1.isNone)) = false := by rfl) :
    PMk X (.Call (.Name x p) [] [⟨some f, e, kpos⟩, ⟨some f2, e2, kpos2⟩] pos) (fun σ H Q => te σ H fun y H1 => te2 σ H1 fun z H2 => ∀ d, H2 d = none → Q (.ref C) (some d) (upd H2 d (.xd [(f2, z), (f, y)]))) := by
  intro pins s σ H Q I h
  obtain ⟨q, msg, params, scope, fI, cc, cda, doc, pm, ct, an, j, p0, p1, p2, p3, p4, p5, p6, p7, p8, p9, r6, r7, r8, r9, iC, tI, Fa, hcd, Re, Se, Se2, hbind⟩ := Xk.ex
  obtain ⟨nm, q', N, bs, bm, sn, sub, ab, col, dd, k0, k1, k2, k3, k5, hC, hbm⟩ := Xk.o.cls
  refine wpAny_Call_Name_kw (ld_glob I hg Xk.gC ?_ hdb)
  refine callWith_KW0 (h₀ := X.base) I.ok.mod.kin Xk.o.kC hall ?_ hpl
  refine thn ((pk_cons (nm := some f) (kpos := kpos) he (pk_cons (nm := some f2) (kpos := kpos2) he2 pk_nil)).run pos pins s σ H (q2of fun y z H1 => ∀ d, H1 d = none → Q (.ref C) (some d) (upd H1 d (.xd [(f2, z), (f, y)]))) I (show tCons te (tCons te2 tNil) σ H (q2of fun y z H1 => ∀ d, H1 d = none → Q (.ref C) (some d) (upd H1 d (.xd [(f2, z), (f, y)]))) from h)) fun ws s2 ⟨zs, H2, I2, rz, q2⟩ => ⟨I2.kIn, ?_⟩
  rw [hks]
  obtain ⟨y, v, z, v2, rfl, rfl, ry, rz⟩ : ∃ y v z v2, zs = [y, z] ∧ ws = [v, v2] ∧ RelV y v ∧ RelV z v2 := by
    cases rz with
    | nil => exact q2.elim
    | @cons y v zs' ws' ry rz' =>
      cases rz' with
      | nil => exact q2.elim
      | @cons z v2 zs2 ws2 rz2 rz3 =>
        cases rz3 with
        | nil => exact ⟨y, v, z, v2, rfl, rfl, ry, rz2⟩
        | cons _ _ => exact q2.elim
  replace q2 : ∀ d, H2 d = none → Q (.ref C) (some d) (upd H2 d (.xd [(f2, z), (f, y)])) := q2
  show wpAny _ _ (call (.ref C) [] [(f, v), (f2, v2)]) _ _ _
  obtain ⟨hp, g, dr, tk, os⟩ := s2
  have hsz : hp.objs.size ≤ hp.objs.size + 1 := Nat.le_succ _
  have kk : ∀ b o, hp.get? b = some o → ((hp.push (kdv_tup [])).push (excO C hp.objs.size)).get? b = some o := fun b o e => Heap.get?_push_of_some _ (Heap.get?_push_of_some _ e)
  have hget : ((hp.push (kdv_tup [])).push (excO C hp.objs.size)).get? (hp.objs.size + 1) = some (excO C hp.objs.size) := by heap_get
  obtain ⟨mb, hb1, hb2⟩ := I2.mod.blt
  have hbx : X.base.get? (hp.objs.size + 1) = none := by
    cases e : X.base.get? (hp.objs.size + 1) with
    | none => rfl
    | some o => exact absurd (Heap.lt_size (I2.bk _ _ e)) (Nat.not_lt.mpr hsz)
  refine wpAny_call (callK F.excBase_ValueError (fun Y => refsVE_contains Y bm hbm) (I2.kIn _ _ hC) (looks_findIn I2.kIn iC) (fun self => bind_fn I2.kIn self tI) ?_)
  refine init2_run Xk.o Fa hcd Xk.no Xk.no2 Re Se Se2 Xk.ne I2.mod.kin I2.mod.glob Xk.ms hb1 hb2 I2.mod.nolimit (hr.make C [] [(f, v), (f2, v2)]).depth (fun b o e => kk b o (I2.bk b o e)) hbx hget (hbind _ _ _ _) fun h' tk' dx t1 k' dn dne hx' hn' => ?_
  exact ⟨rfl, mk_fin Xk.o I2 k' dn dne hx' hn' (relO_put rz (relO_put (fs := []) ry fun g => True.intro)) (q2 dx (I2.hok.fresh (by rw [Heap.size_push, Heap.size_push] at dn; show hp.objs.size ≤ dx; omega)))⟩
end
section
variable {X : Cy} {e e2 : Expr} {r : Env2} {G : GD} {pos p kpos kpos2 rpos : Pos} {D0 : EndsD} {k : Nat}
theorem ws_raiseK1 {x f : Str} {C : Addr} (Xk : XK1 X.prog X.K X.mg x f C) (hr : Room (k + 1) X.A) (hc : X.calm = true) (tk : X.Tk) (hg : Gl X x) (h : WE X e r G fun y r1 G1 => ∃ d, y = .sh d ∧ X.QX ⟨.ref C, [(f, d)]⟩ r1 G1)
    (hall : (backToKw pos (keywordEach [⟨some f, e, kpos⟩] X.env)).all (·.1.isSome) = true := by rfl) (hks : (backToKw pos (keywordEach [⟨some f, e, kpos⟩] X.env)).filterMap (·.1) = [f] := by rfl) (hdb : (x == ("__debug__" : Str)) = false := by decide)
    (hpl : ((backTo pos (starEach [] X.env)).any (·.1) || (backToKw pos (keywordEach [⟨some f, e, kpos⟩] X.env)).any (·.1.isNone)) = false := by rfl) :
    WS X (.Raise (some (.Call (.Name x p) [] [⟨some f, e, kpos⟩] pos)) none rpos) r G D0 := fun F0 T F H σ lk S =>
  RunS.of (ps_raise hc tk (pmk_kw1 Xk hr hg peR hall hks hdb hpl)) ((h F0 T F H σ lk S).mono fun v H1 ⟨y, r1, G1, F1, e1, S1, k1, d, hy, q⟩ dd hd => by
    subst hy
    exact ⟨r1, G1, upd F1 dd (.xd [(f, v)]), ⟨.ref C, [(f, d)]⟩, lk.sta (S1.newF hd), ⟨rfl, .inr ⟨dd, [v], rfl, upd_same, ⟨v, [], rfl, Rep.mono (Ex.new (S1.bas.freshF hd).1) _ _ k1, rfl⟩⟩⟩, q⟩)
theorem ws_raiseK2 {x f f2 : Str} {C : Addr} (Xk : XK2 X.prog X.K X.mg x f f2 C) (hr : Room (k + 1) X.A) (hc : X.calm = true) (tk : X.Tk) (hg : Gl X x) (h : WE X e r G fun y r1 G1 => ∃ d, y = .sh d ∧ WE X e2 r1 G1 fun y2 r2 G2 => ∃ d2, y2 = .sh d2 ∧ X.QX ⟨.ref C, [(f2, d2), (f, d)]⟩ r2 G2)
    (hall : (backToKw pos (keywordEach [⟨some f, e, kpos⟩, ⟨some f2, e2, kpos2⟩] X.env)).all (·.1.isSome) = true := by rfl) (hks : (backToKw pos (keywordEach [⟨some f, e, kpos⟩, ⟨some f2, e2, kpos2⟩] X.env)).filterMap (·.1) = [f, f2] := by rfl) (hdb : (x == ("__debug__" : Str)) = false := by decide)
    (hpl : ((backTo pos (starEach [] X.env)).any (·.1) || (backToKw pos (keywordEach [⟨some f, e, kpos⟩, ⟨some f2, e2, kpos2⟩] X.env)).any (·.1.isNone)) = false := by rfl) :
    WS X (.Raise (some (.Call (.Name x p) [] [⟨some f, e, kpos⟩, ⟨some f2, e2, kpos2⟩] pos)) none rpos) r G D0 := fun F0 T F H σ lk S =>
  RunS.of (ps_raise hc tk (pmk_kw2 Xk hr hg peR peR hall hks hdb hpl)) ((h F0 T F H σ lk S).mono fun v H1 ⟨y, r1, G1, F1, e1, S1, k1, d, hy, hw⟩ => (hw F0 T F1 H1 σ lk S1).mono fun v2 H2 ⟨y2, r2, G2, F2, e2, S2, k2, d2, hy2, q⟩ dd hd => by
    subst hy hy2
    have ex := Ex.new (o := HO.xd [(f2, v2), (f, v)]) (S2.bas.freshF hd).1
    exact ⟨r2, G2, upd F2 dd (.xd [(f2, v2), (f, v)]), ⟨.ref C, [(f2, d2), (f, d)]⟩, lk.sta (S2.newF hd), ⟨rfl, .inr ⟨dd, [v2, v], rfl, upd_same, ⟨v2, [v], rfl, Rep.mono ex _ _ k2, ⟨v, [], rfl, Rep.mono (e2.trans ex) _ _ k1, rfl⟩⟩⟩⟩, q⟩)
end
end
section
open PySem.W PySem.HandSPX
theorem tail_VE : ∀ l : List Value, excTail veTail l = true → refsVE l = true := by
  intro l
  induction l with
  | nil => intro e; exact e
  | cons a r ih =>
    intro e
    rcases excTail_cases (a :: r) e with ⟨c, r', q, h⟩ | q
    · obtain ⟨rfl, rfl⟩ := List.cons.inj q
      exact ih h
    · rw [q]; rfl
theorem oexc_mk {K : Frag} {C : Addr} (q : excInitIn K C [.type "ValueError", .type "Exception", .type "BaseException", .type "object"] "ValueError.__new__" = true) (hd : hasDictIn K C = true) (sa : findIn K (.ref C) "__setattr__" = some (some (.builtin "object.__setattr__")))
    (exC : subIn K (.ref C) (.type "BaseException") = some true) (tyC : typeIn K (.ref C) = some (.type "type")) (kC : keepIn K (.ref C) = true) : L2.OexC K C := by
  refine ⟨?_, sa, exC, tyC, kC⟩
  unfold excInitIn at q
  split at q
  · rename_i dd cd sl ho
    split at q
    · rename_i C' bm k0 k1 k2 k3 n k5 hm hs
      simp only [Bool.and_eq_true, beq_iff_eq, Bool.not_eq_true'] at q
      obtain ⟨⟨⟨rfl, rfl⟩, hdel⟩, ht⟩ := q
      have hd2 : cd.hasDict = true := by
        unfold hasDictIn clsIn at hd
        rw [ho] at hd
        exact hd
      obtain ⟨nm, bs, mro, ns, qn, hdc, sn, sub, ab, col, del⟩ := cd
      dsimp only at hm hdel hd2
      subst hm hdel hd2
      have hsl : sl = #[k0, k1, k2, k3, some (.builtin "ValueError.__new__"), k5] := by
        obtain ⟨l⟩ := sl
        simp only at hs
        rw [hs]
      subst hsl
      exact ⟨nm, qn, ns, bs, bm, sn, sub, ab, col, dd, k0, k1, k2, k3, k5, ho, tail_VE _ ht⟩
    · cases q
  · cases q
/-- the text of such an __init__ -/
structure XiT1 (st : Stmt) (q f : Str) : Prop where
  body : ∃ (msg : Str) (j : Nat) (p0 p1 p2 p3 p4 p5 p6 p7 p8 p9 : Pos), defBody st = [xiE msg j p0 p1 p2 p3 p4 p5, xiS f p6 p7 p8 p9] ∧ ∀ fI cc cda, XiR q (defScope st) fI cc cda msg j p0 p1 p2 p3 p4 ∧ XiS q (defScope st) fI cc cda f p6 p7 p8 p9
  par : ∃ ar : Arg, ((defArgs st).posonlyargs ++ (defArgs st).args).head? = some ar ∧ ar.arg = "self"
  hks : (defScope st).names.lookup ("super" : Str) = some .globalImplicit
  hkc : (defScope st).names.lookup ("__class__" : Str) = some .free
  hkl : (defScope st).names.lookup ("self" : Str) = some .local
  kind : (defScope st).kind = .function
  bind : ∀ (B : List Stmt) (doc pm ct cdv : Value) (an : Option Addr) (cc : Addr) (s : Shared) (u v : Value), BindsTo s (ksFn "__init__" q (defArgs st) B (defScope st) .none .none doc pm an cdv ct cc) ⟨[u], [(f, v)]⟩ [("self", u), (f, v)]
structure XiT2 (st : Stmt) (q f f2 : Str) : Prop where
  body : ∃ (msg : Str) (j : Nat) (p0 p1 p2 p3 p4 p5 p6 p7 p8 p9 r6 r7 r8 r9 : Pos), defBody st = [xiE msg j p0 p1 p2 p3 p4 p5, xiS f p6 p7 p8 p9, xiS f2 r6 r7 r8 r9] ∧ ∀ fI cc cda, XiR q (defScope st) fI cc cda msg j p0 p1 p2 p3 p4 ∧ XiS q (defScope st) fI cc cda f p6 p7 p8 p9 ∧ XiS q (defScope st) fI cc cda f2 r6 r7 r8 r9
  par : ∃ ar : Arg, ((defArgs st).posonlyargs ++ (defArgs st).args).head? = some ar ∧ ar.arg = "self"
  hks : (defScope st).names.lookup ("super" : Str) = some .globalImplicit
  hkc : (defScope st).names.lookup ("__class__" : Str) = some .free
  hkl : (defScope st).names.lookup ("self" : Str) = some .local
  kind : (defScope st).kind = .function
  ne : (f == f2) = false
  bind : ∀ (B : List Stmt) (doc pm ct cdv : Value) (an : Option Addr) (cc : Addr) (s : Shared) (u v v2 : Value), BindsTo s (ksFn "__init__" q (defArgs st) B (defScope st) .none .none doc pm an cdv ct cc) ⟨[u], [(f, v), (f2, v2)]⟩ [("self", u), (f, v), (f2, v2)]
section
variable {P : Program} {K : Frag} {mg : Str → Option Value} {x q f f2 : Str} {C fI cc cda : Addr} {st : Stmt} {oc ccl cl doc pm ct : Value} {od cdd cld an : Option Addr} {osl ccs csl : Array (Option Value)} {vs : Array Value} {file : Str} {tf : Tok}
theorem xk1_mk (T : XiT1 st q f) (o : L2.OexC K C) (gC : mg x = some (.ref C)) (ms : mg "super" = none) (no : findIn K (.ref C) f = some none) (iC : findIn K (.ref C) "__init__" = some (some (.ref fI))) (tI : typeIn K (.ref fI) = some (.type "function"))
    (sup : ks_superIn K C C "__init__" = some (some (.builtin "ValueError.__init__"))) (self : mroIn K C (.ref C) = some true) (isV : subIn K (.ref C) (.type "ValueError") = some true) (any : nsIn K cStatics "thirdparty.any" = some none)
    (l : K.lookup fI = some ⟨oc, od, .func (ksFn "__init__" q (defArgs st) (defBody st) (defScope st) .none .none doc pm an (.ref cda) ct cc), osl⟩) (hcd : codeIn K (.ref cda) q = true) (lc : K.lookup cda = some ⟨ccl, cdd, .fields vs, ccs⟩) (v2 : vs[2]? = some (.str file tf))
    (hf : ((P.main.file : Str) == file) = true) (top : (P.main.scope.names.lookup ("super" : Str)).isSome = false) (lcc : K.lookup cc = some ⟨cl, cld, .cell (some (.ref C)), csl⟩) : XK1 P K mg x f C := by
  obtain ⟨msg, j, p0, p1, p2, p3, p4, p5, p6, p7, p8, p9, hb, hr⟩ := T.body
  obtain ⟨hr1, hr2⟩ := hr fI cc cda
  rw [hb] at l
  exact ⟨o, gC, ms, no, q, msg, defArgs st, defScope st, fI, cc, cda, doc, pm, ct, an, j, p0, p1, p2, p3, p4, p5, p6, p7, p8, p9, iC, tI, ⟨sup, self, isV, any, ⟨_, _, _, l⟩, T.par, ⟨_, _, _, _, _, _, lc, v2, hf⟩, ⟨_, _, _, lcc⟩, T.hks, T.hkc, T.hkl, T.kind, top⟩, hcd, hr1, hr2, fun s u v => T.bind _ _ _ _ _ _ _ s u v⟩
theorem xk2_mk (T : XiT2 st q f f2) (o : L2.OexC K C) (gC : mg x = some (.ref C)) (ms : mg "super" = none) (no : findIn K (.ref C) f = some none) (no2 : findIn K (.ref C) f2 = some none) (iC : findIn K (.ref C) "__init__" = some (some (.ref fI))) (tI : typeIn K (.ref fI) = some (.type "function"))
    (sup : ks_superIn K C C "__init__" = some (some (.builtin "ValueError.__init__"))) (self : mroIn K C (.ref C) = some true) (isV : subIn K (.ref C) (.type "ValueError") = some true) (any : nsIn K cStatics "thirdparty.any" = some none)
    (l : K.lookup fI = some ⟨oc, od, .func (ksFn "__init__" q (defArgs st) (defBody st) (defScope st) .none .none doc pm an (.ref cda) ct cc), osl⟩) (hcd : codeIn K (.ref cda) q = true) (lc : K.lookup cda = some ⟨ccl, cdd, .fields vs, ccs⟩) (v2 : vs[2]? = some (.str file tf))
    (hf : ((P.main.file : Str) == file) = true) (top : (P.main.scope.names.lookup ("super" : Str)).isSome = false) (lcc : K.lookup cc = some ⟨cl, cld, .cell (some (.ref C)), csl⟩) : XK2 P K mg x f f2 C := by
  obtain ⟨msg, j, p0, p1, p2, p3, p4, p5, p6, p7, p8, p9, r6, r7, r8, r9, hb, hr⟩ := T.body
  obtain ⟨hr1, hr2, hr3⟩ := hr fI cc cda
  rw [hb] at l
  exact ⟨o, gC, ms, no, no2, T.ne, q, msg, defArgs st, defScope st, fI, cc, cda, doc, pm, ct, an, j, p0, p1, p2, p3, p4, p5, p6, p7, p8, p9, r6, r7, r8, r9, iC, tI, ⟨sup, self, isV, any, ⟨_, _, _, l⟩, T.par, ⟨_, _, _, _, _, _, lc, v2, hf⟩, ⟨_, _, _, lcc⟩, T.hks, T.hkc, T.hkl, T.kind, top⟩, hcd, hr1, hr2, hr3, fun s u v v2 => T.bind _ _ _ _ _ _ _ s u v v2⟩
end
end
open Out (Rt)
section
variable {X : Cy} {e a b c o tg kx vx elt : Expr} {es ifs : List Expr} {st : Stmt} {sts rest body orelse : List Stmt} {r : Env2} {G : GD} {pos tpos apos cpos p0 : Pos} {D0 : EndsD} {α β γ σT ρ : Type}
theorem wb_forOH (is : List Nat) (env : σT → Env2) (gg : σT → GD) (en : α → D) (hp : PassesOwn (model X.prog X.w) X.A X.env X.xe) (hc : X.calm = true)
    (h : WI X tg e r G fun ds r2 G1 => ∃ (xs : List α) (s0 : σT) (f : σT → α → Out σT) (kk : σT → Out β) (Q : β → Prop) (E : Xm → Prop), ds = xs.map en ∧ Wk r2 (env s0) ∧ G1 = gg s0 ∧ ((Out.fold f xs s0).bind kk).sat Q E ∧
      (∀ (s : σT) (x : α) (Q' : σT → Prop), (f s x).sat Q' E → WG X tg (en x) (env s) (gg s) is fun r4 G4 => WB X body r4 G4 { D0 with nx := AtS env gg Q', ct := AtS env gg Q', bk := fun r1 G1 => WB X rest r1 G1 D0 }) ∧
      ∀ s, (kk s).sat Q E → WB X rest (env s) (gg s) D0) (hs : ∀ x, foldedSetIterable e X.env x = pure x := by intro _; rfl) : Hold (WB X (.For tg e body [] pos :: rest) r G D0) := ⟨wb_forO is env gg en hp hc h hs⟩
theorem ti_tupH {f : α → D} {Q : List D → Env2 → GD → Prop} (h : WE X e r G fun x r1 G1 => ∃ xs r2, fz r1 x = some (.tup (List.map f xs), r2) ∧ (xs.length ≤ LIM → Q (xs.map f) r2 G1)) : Hold (WI X tg e r G Q) := ⟨ti_tup h⟩
end
/-- the object at a is o -/
def ObO (a : Addr) (o : Obj) : HO := .ext fun h => h.get? a = some o
theorem obO_ok {P : Program} {w : World} {H : Hp} {h : Heap} {a : Addr} {o : Obj} (e : h.get? a = some o) : ObjOk P w H h a (ObO a o) := ⟨e, ⟨o, e⟩, fun _ _ p st => st _ p⟩
section
variable {X : Cx} {pins : List (Addr × Obj)} {σ : L2.St} {H H1 HZ : Hp} {s s1 : Shared}
/-- an object made since s is known from now on -/
theorem inv_track {a : Addr} {u : HO} (I : Inv X pins σ H s) (J : Inv X pins σ H1 s1) (hs : s.heap.objs.size ≤ a) (hn : H1 a = none) (ok : ObjOk X.prog X.w (upd H1 a u) s1.heap a u) : Inv X pins σ (upd H1 a u) s1 := by
  have ne : ∀ {b : Addr} {o : Obj}, s.heap.get? b = some o → b ≠ a := fun {b o} e => Nat.ne_of_lt (Nat.lt_of_lt_of_le (Heap.lt_size e) hs)
  have kp : ∀ {b : Addr} {o : HO}, H1 b = some o → upd H1 a u b = some o := fun {b o} e => by rw [upd_ne (ne_of_none e hn)]; exact e
  refine ⟨J.ok, J.os, J.bare, ⟨J.base.keep, J.base.slot, fun b o e n hx => ?_, J.base.there, fun b xs e => kp (J.base.tups b xs e), fun b o v e => kp (J.base.frzs b o v e), fun b ps e => ?_⟩, J.loc, J.cell, ?_, fun x c e => ?_, fun p hp => ?_, fun b v e => ?_, J.len⟩
  · rw [upd_ne (Nat.ne_of_lt (Nat.lt_of_lt_of_le (Heap.lt_size e) (Nat.le_trans I.sz hs)))]
    exact J.base.free b o e n hx
  · obtain ⟨more, h⟩ := J.base.tbls b ps e
    exact ⟨more, kp h⟩
  · rw [upd_ne (Nat.ne_of_lt (Nat.lt_of_lt_of_le I.lt hs))]; exact J.free
  · obtain ⟨v, z⟩ := I.cell x c e
    rw [upd_ne (Nat.ne_of_lt (Nat.lt_of_lt_of_le z.lt hs))]; exact J.freeC x c e
  · obtain ⟨h1, h2, h3⟩ := J.pin p hp
    exact ⟨h1, by rw [upd_ne (ne (I.pin p hp).1)]; exact h2, h3⟩
  · by_cases hb : b = a
    · subst hb
      rw [upd_same] at e
      cases e
      exact ok
    · rw [upd_ne hb] at e
      exact (J.hok b v e).stay (fun _ _ _ q => q) (fun d q => kp q) fun d xs q => kp q
abbrev lamO (X : Cx) (params : Arguments) (body : Expr) (scope : Scope) (pm : Value) (c' : Addr) (ctv : Value) : Obj := PySem.W.kla_obj "<lambda>" (X.env.qual ++ "<lambda>") params body scope (cloFrom X.env.cells scope.names []) pm c' ctv
/-- a(), a def's parameter that bears the lambda; the lambda is known by the tracked objects -/
theorem pe_actF {CXg : CXT} {Eg : XK} {Ng : List Str} {qg : Str} {sg : Scope} {g f c' : Addr} {cdg pm ctv : Value} {params : Arguments} {body : Expr} {scope : Scope} {k i : Nat} {a : Str} {pn : List (Addr × Obj)} {xe : Value → Shared → Prop} {W : WX} {E : XK} {tb : TE} {p1 p2 : Pos} {σ1 : L2.St}
    (I : Inv X pins σ1 H s) (L : LamX.LamS X.env.scope scope)
    (hbind : bindArgs (PySem.W.kla_fn "<lambda>" (X.env.qual ++ "<lambda>") params body scope (cloFrom X.env.cells scope.names []) pm (.ref c') ctv) ⟨[], []⟩ = pure [])
    (tk : Takes ((cxOf CXg X.prog X.w X.K X.mg X.base Ng qg sg g cdg X.A X.stack s H Eg).tr pn xe) W) (hW : ∀ cls d σ' H', E cls d H' → W cls d σ' H') (hr : Room (k + 1) (X.A.deeper (envOfC qg sg s.heap.objs.size g cdg)))
    (hbody : ∀ (A : Around) (outer : List Env) (s : Shared) (H : Hp), Room k (A.deeper (LamX.lamEnv X scope s.heap.objs.size f c')) → PE (LamX.lamCx X A outer s H E scope f c') body tb)
    (hN : Ng[i]? = some a) (hv : Vis sg a) (hd : (a == ("__debug__" : Str)) = false := by decide) (hcd : (a == ("__classdict__" : Str)) = false := by decide) :
    PE ((cxOf CXg X.prog X.w X.K X.mg X.base Ng qg sg g cdg X.A X.stack s H Eg).tr pn xe) (.Call (.Name a p1) [] [] p2)
      (fun σZ HZ Q => σZ[i]? = some (some (.ref f)) ∧ HZ c' = some (LamX.CodeO c' (X.env.qual ++ "<lambda>")) ∧ HZ f = some (ObO f (lamO X params body scope pm c' ctv)) ∧ tb σ1 HZ Q) := by
  refine ⟨fun pz sZ σZ HZ Q IZ ⟨hs, hc, hf, ht⟩ => ?_⟩
  refine wpAny_Call_Name_kw (thn ((pe_var (pos := p1) (i := i) hN hv hd hcd).run pz sZ σZ HZ (fun v H1 => v = .ref f ∧ H1 = HZ) IZ ⟨.ref f, hs, rfl, rfl⟩) fun u1 s1 ⟨v, H1, I1, r1, ev, eH⟩ => ?_)
  subst ev
  rw [eH] at I1
  obtain rfl : u1 = Value.ref f := r1
  have of1 : s1.heap.get? f = some (lamO X params body scope pm c' ctv) := (I1.hok f _ hf).1
  refine PySem.W.callWith_F0 ⟨_, _, _, _, of1⟩ ?_
  have un : Un (frs X.stack) [] H HZ s.heap s1.heap := I1.base
  obtain ⟨⟨oc, vs, t, hoc, hdc, hvc⟩, _, _⟩ := I1.hok c' _ hc
  have rc : codeAny (model X.prog X.w) (X.A.deeper (envOfC qg sg s.heap.objs.size g cdg)) (.call (.ref f) ⟨[], []⟩) (CR (L2.CX X.prog X.w) (envOfC qg sg s.heap.objs.size g cdg :: X.stack) X.prog X.w HZ s1 Q E) s1 := by
    refine PySem.W.kla_callFunE hr.depth of1 rfl L.co L.gen rfl ⟨c', oc, vs, t, rfl, hoc, hdc, hvc⟩ ?_
    rw [hbind]
    refine wpAny_pure (wpAny_newFunctionEnv (fun y hy => (L.own y hy).2) (fun y hy => absurd hy (by simp)) (fun h₁ hns hsb => ⟨I1.nolimit.fresh _ hsb, ?_⟩) L.kind)
    show codeAny _ _ (.expr body (LamX.lamEnv X scope s1.heap.objs.size f c')) _ _
    have J : Inv (LamX.lamCx X (X.A.deeper (envOfC qg sg s.heap.objs.size g cdg)) (envOfC qg sg s.heap.objs.size g cdg :: X.stack) s1 HZ E scope f c') [] σ1 HZ { s1 with heap := h₁, toks := s1.toks + ([] : List (Str × Value)).length } :=
      LamX.lam_start2 I L I1.env0 hr.hd un hns fun d o e => hsb.extBut d o (Nat.ne_of_lt (Heap.lt_size e)) (Heap.get?_push_of_some _ e)
    refine PySem.W.kla_codeExpr (wpAny_mono ((hbody _ _ s1 HZ (hr.deeper _)).run [] _ _ HZ Q J ht) (fun v s' ⟨w', H', J', rv, q⟩ => ⟨w', H', J'.os, J'.bare, J'.base, J'.hok, rv, q⟩) fun e s' hq => hq)
  have hx : Passes (L2.CX X.prog X.w) ((cxOf CXg X.prog X.w X.K X.mg X.base Ng qg sg g cdg X.A X.stack s H Eg).tr pn xe) E := passes_call tk hW
  refine wpAny_call (codeAny_mono rc fun r s' hq => ?_)
  match r, hq with
  | .error e, hq => exact hx pz σZ HZ s1 e s' I1 hq
  | .ok (.ret _), hq => exact I1.after hq
/-- .. whose parameter has a value -/
theorem pe_actFD {CXg : CXT} {Eg : XK} {Ng : List Str} {qg : Str} {sg : Scope} {g f c' T : Addr} {cdg doc pm ctv : Value} {params : Arguments} {body : Expr} {scope : Scope} {k i : Nat} {a b : Str} {u : Value} {pn : List (Addr × Obj)} {xe : Value → Shared → Prop} {W : WX} {E : XK} {tb : TE} {p1 p2 : Pos} {σ1 : L2.St}
    {kb : Option (Array Value) → Sem (List (Str × Value))} (I : Inv X pins σ1 H s) (L : LamD X.N X.env.scope scope b)
    (hb1 : bindArgs (lamFd (X.env.qual ++ "<lambda>") params body scope (cloFrom X.env.cells scope.names []) T doc pm (.ref c') ctv) ⟨[], []⟩ = seqItems? (.ref T) >>= kb) (hb2 : kb (some #[u]) = pure [(b, u)])
    (tk : Takes ((cxOf CXg X.prog X.w X.K X.mg X.base Ng qg sg g cdg X.A X.stack s H Eg).tr pn xe) W) (hW : ∀ cls d σ' H', E cls d H' → W cls d σ' H') (hr : Room (k + 1) (X.A.deeper (envOfC qg sg s.heap.objs.size g cdg)))
    (hbody : ∀ (A : Around) (outer : List Env) (s : Shared) (H : Hp), Room k (A.deeper (LamX.lamEnv X scope s.heap.objs.size f c')) → PE (LamX.lamCx X A outer s H E scope f c') body tb)
    (hN : Ng[i]? = some a) (hv : Vis sg a) (hd : (a == ("__debug__" : Str)) = false := by decide) (hcd : (a == ("__classdict__" : Str)) = false := by decide) :
    PE ((cxOf CXg X.prog X.w X.K X.mg X.base Ng qg sg g cdg X.A X.stack s H Eg).tr pn xe) (.Call (.Name a p1) [] [] p2)
      (fun σZ HZ Q => σZ[i]? = some (some (.ref f)) ∧ HZ c' = some (LamX.CodeO c' (X.env.qual ++ "<lambda>")) ∧ (HZ f = some (ObO f (lamOb (X.env.qual ++ "<lambda>") params body scope (cloFrom X.env.cells scope.names []) T doc pm c' ctv)) ∧ HZ T = some (ObO T (PySem.W.kdv_tup [u]))) ∧ tb σ1 HZ Q) := by
  refine ⟨fun pz sZ σZ HZ Q IZ ⟨hs, hc, ⟨hf, hT⟩, ht⟩ => ?_⟩
  refine wpAny_Call_Name_kw (thn ((pe_var (pos := p1) (i := i) hN hv hd hcd).run pz sZ σZ HZ (fun v H1 => v = .ref f ∧ H1 = HZ) IZ ⟨.ref f, hs, rfl, rfl⟩) fun u1 s1 ⟨v, H1, I1, r1, ev, eH⟩ => ?_)
  subst ev
  rw [eH] at I1
  obtain rfl : u1 = Value.ref f := r1
  have of1 : s1.heap.get? f = some (lamOb (X.env.qual ++ "<lambda>") params body scope (cloFrom X.env.cells scope.names []) T doc pm c' ctv) := (I1.hok f _ hf).1
  have oT1 : s1.heap.get? T = some (PySem.W.kdv_tup [u]) := (I1.hok T _ hT).1
  refine PySem.W.callWith_F0 ⟨_, _, _, _, of1⟩ ?_
  have un : Un (frs X.stack) [] H HZ s.heap s1.heap := I1.base
  obtain ⟨⟨oc, vs, t, hoc, hdc, hvc⟩, _, _⟩ := I1.hok c' _ hc
  have rc : codeAny (model X.prog X.w) (X.A.deeper (envOfC qg sg s.heap.objs.size g cdg)) (.call (.ref f) ⟨[], []⟩) (CR (L2.CX X.prog X.w) (envOfC qg sg s.heap.objs.size g cdg :: X.stack) X.prog X.w HZ s1 Q E) s1 := by
    refine PySem.W.kla_callFunE hr.depth of1 rfl L.co L.gen rfl ⟨c', oc, vs, t, rfl, hoc, hdc, hvc⟩ ?_
    show wpAny _ _ (bindArgs (lamFd (X.env.qual ++ "<lambda>") params body scope (cloFrom X.env.cells scope.names []) T doc pm (.ref c') ctv) ⟨[], []⟩) _ _ _
    rw [hb1]
    refine wpAny_bind (wpAny_seqItems oT1 rfl ?_)
    show wpAny _ _ (kb (some #[u])) _ _ _
    rw [hb2]
    refine wpAny_pure (wpAny_newFunctionEnv L.nocell (fun y hy => by rw [List.mem_singleton] at hy; rw [hy]; exact L.par) (fun h₁ hns hsb => ⟨I1.nolimit.fresh _ hsb, ?_⟩) L.kind)
    show codeAny _ _ (.expr body (LamX.lamEnv X scope s1.heap.objs.size f c')) _ _
    have J : Inv (LamX.lamCx X (X.A.deeper (envOfC qg sg s.heap.objs.size g cdg)) (envOfC qg sg s.heap.objs.size g cdg :: X.stack) s1 HZ E scope f c') [] σ1 HZ { s1 with heap := h₁, toks := s1.toks + [(b, u)].length } :=
      lam_enterD I L I1.env0 hr.hd un hns fun d o e => hsb.extBut d o (Nat.ne_of_lt (Heap.lt_size e)) (Heap.get?_push_of_some _ e)
    refine PySem.W.kla_codeExpr (wpAny_mono ((hbody _ _ s1 HZ (hr.deeper _)).run [] _ _ HZ Q J ht) (fun v s' ⟨w', H', J', rv, q⟩ => ⟨w', H', J'.os, J'.bare, J'.base, J'.hok, rv, q⟩) fun e s' hq => hq)
  have hx : Passes (L2.CX X.prog X.w) ((cxOf CXg X.prog X.w X.K X.mg X.base Ng qg sg g cdg X.A X.stack s H Eg).tr pn xe) E := passes_call tk hW
  refine wpAny_call (codeAny_mono rc fun r s' hq => ?_)
  match r, hq with
  | .error e, hq => exact hx pz σZ HZ s1 e s' I1 hq
  | .ok (.ret _), hq => exact I1.after hq
end
/-- a kept lambda: what os tells is enough to call it -/
structure LamK (X : Cy) (scope : Scope) (body : Expr) (f c' : Addr) (os : List (Addr × HO)) : Prop where
  code : (c', LamX.CodeO c' (X.env.qual ++ "<lambda>")) ∈ os
  has : ∀ y ∈ scope.names, y.2 = .free → X.env.scope.names.lookup y.1 = some .cell ∨ X.env.scope.names.lookup y.1 = some .free
  act : ∀ (k : Nat) (Ng : List Str) (qg : Str) (sg : Scope) (g : Addr) (cdg : Value) (a : Str) (pn : List (Addr × Obj)) (xe : Value → Shared → Prop) (W : WX) (E : XK) (tb : TE) (p1 p2 : Pos) (pins : List (Addr × Obj)) (σ1 : L2.St) (H : Hp) (s : Shared),
    Inv X.toCx pins σ1 H s → Takes ((zcx X.prog X.w X.K X.mg X.base Ng qg sg g cdg X.A X.stack s H).tr pn xe) W → (∀ cls d σ' H', E cls d H' → W cls d σ' H') → Room (k + 1) (X.A.deeper (envOfC qg sg s.heap.objs.size g cdg)) →
    (∀ (A : Around) (outer : List Env) (s : Shared) (H : Hp), Room k (A.deeper (LamX.lamEnv X.toCx scope s.heap.objs.size f c')) → PE (LamX.lamCx X.toCx A outer s H E scope f c') body tb) → Ng[0]? = some a → Vis sg a → (a == ("__debug__" : Str)) = false → (a == ("__classdict__" : Str)) = false →
    PE ((zcx X.prog X.w X.K X.mg X.base Ng qg sg g cdg X.A X.stack s H).tr pn xe) (.Call (.Name a p1) [] [] p2) (fun σZ HZ Q => σZ[0]? = some (some (.ref f)) ∧ HZ c' = some (LamX.CodeO c' (X.env.qual ++ "<lambda>")) ∧ (∀ p ∈ os, HZ p.1 = some p.2) ∧ tb σ1 HZ Q)
theorem PE.weak {X : Cx} {e : Expr} {t t' : TE} (h : PE X e t) (k : ∀ σ H Q, t' σ H Q → t σ H Q) : PE X e t' := ⟨fun pins s σ H Q I q => h.run pins s σ H Q I (k σ H Q q)⟩
section
variable {X : Cy} {r : Env2} {G : GD} {e body : Expr} {p pos lpos : Pos}
/-- lambda: body, as a value -/
theorem we_mkLam {c P : Addr} {params : Arguments} {scope : Scope} {Q : Res → Env2 → GD → Prop} (TB : LamX.TabB X.base X.mg c P) (hcode : X.env.code = .ref c) (hP : G P = some (.tab (X.env.qual ++ "<lambda>"))) (LS : LamX.LamS X.env.scope scope) (hdef : defaultsOf params X.env = ([], []))
    (hbind : ∀ (q : Str) (cl : List (Str × Addr)) (pm cv ctv : Value), bindArgs (PySem.W.kla_fn "<lambda>" q params body scope cl pm cv ctv) ⟨[], []⟩ = pure [])
    (h : ∀ (f c' : Addr) (os : List (Addr × HO)), LamK X scope body f c' os → Q (.sh (.hob f os)) r G) : WE X (.Lambda params body scope lpos) r G Q := fun F0 T F H σ lk S => by
  intro pins s I
  obtain ⟨ps, hPt, htr, hco⟩ := S.bas.gh _ _ hP
  refine lam_mkZ (Pc := fun c0 => F c0 = some (LamX.CodeO c0 (X.env.qual ++ "<lambda>"))) I TB hcode hPt htr (fun p' cv h => by obtain ⟨c0, e1, e2⟩ := hco p' cv h; exact ⟨c0, e1, S.bas.fh _ _ e2, e2⟩) hdef (LS.has I.ok) fun f c' pm' ctv H1 s' I1 dj hf hfn hfr hcc hge => ?_
  have S1 : ∃ F1, Ex F F1 ∧ F1 c' = some (LamX.CodeO c' (X.env.qual ++ "<lambda>")) ∧ Sta X.K F0 T F1 G H1 r σ := by
    rcases dj with ⟨rfl, hpc⟩ | ⟨more, nc, ht2, ham, rfl⟩
    · exact ⟨F, Ex.refl _, hpc, S⟩
    · refine ⟨_, Ex.new (S.bas.freshF nc).1, upd_same, S.tab hP nc ht2 fun p' cv hcv => ?_⟩
      rcases ham p' cv hcv with z | z
      · exact .inl (hco p' cv z)
      · exact .inr z
  obtain ⟨F1, eF, hF, S1⟩ := S1
  have hFf := (S1.bas.freshF hfn).1
  have q := h f c' [(f, ObO f (lamO X.toCx params body scope pm' c' ctv)), (c', LamX.CodeO c' (X.env.qual ++ "<lambda>"))] ⟨by simp, LS.free, fun k Ng qg sg g cdg a pn xe W E tb p1 p2 pins σ1 H s I tk hW hr hb hN hv h1 h2 =>
    PE.weak (pe_actF (CXg := C8.CX0) (Eg := C8.E0) (i := 0) (f := f) (c' := c') (pm := pm') (ctv := ctv) (params := params) (k := k) (tb := tb) (E := E) (p1 := p1) (p2 := p2) I LS (hbind _ _ _ _ _) tk hW hr hb hN hv h1 h2) fun σ H Q ⟨z1, z2, z3, z4⟩ => ⟨z1, z2, z3 _ List.mem_cons_self, z4⟩⟩
  refine ⟨.ref f, upd H1 f (ObO f (lamO X.toCx params body scope pm' c' ctv)), inv_track I I1 hge hfn (obO_ok hf), rfl, .sh (.hob f _), r, G, upd F1 f (ObO f (lamO X.toCx params body scope pm' c' ctv)), eF.trans (Ex.new hFf), S1.newF hfn, ⟨rfl, fun q hq => ?_⟩, q⟩
  rcases List.mem_cons.mp hq with rfl | hq
  · exact upd_same
  · rcases List.mem_singleton.mp hq with rfl
    exact Ex.new hFf _ _ hF
/-- lambda b=n: body, as a value -/
theorem we_mkLamD {c P : Addr} {params : Arguments} {scope : Scope} {b : Str} {n : Int} {cj : Nat} {cp : Pos} {Q : Res → Env2 → GD → Prop} (TB : LamX.TabB X.base X.mg c P) (hcode : X.env.code = .ref c) (hP : G P = some (.tab (X.env.qual ++ "<lambda>"))) (LS : LamD X.N X.env.scope scope b)
    (hdf : params.defaults = [.Constant (.int n) cj cp]) (hkd : params.kw_defaults = []) (hko : params.kwonlyargs = [])
    (hbind : ∀ (q : Str) (cl : List (Str × Addr)) (T : Addr) (doc pm cv ctv u : Value), ∃ kb, bindArgs (lamFd q params body scope cl T doc pm cv ctv) ⟨[], []⟩ = seqItems? (.ref T) >>= kb ∧ kb (some #[u]) = pure [(b, u)])
    (h : ∀ (f c' : Addr) (os : List (Addr × HO)), LamK X scope body f c' os → Q (.sh (.hob f os)) r G) : WE X (.Lambda params body scope lpos) r G Q := fun F0 T F H σ lk S => by
  intro pins s I
  obtain ⟨ps, hPt, htr, hco⟩ := S.bas.gh _ _ hP
  refine lam_mkDZ (Pc := fun c0 => F c0 = some (LamX.CodeO c0 (X.env.qual ++ "<lambda>"))) I TB hcode hPt htr (fun p' cv h => by obtain ⟨c0, e1, e2⟩ := hco p' cv h; exact ⟨c0, e1, S.bas.fh _ _ e2, e2⟩) hdf hkd hko (LS.has I.ok) fun f c' T1 tk1 doc1 pm' ctv H1 s' I1 dj hf hfn hfr hT1 hTn1 hTf1 hcc hge hgeT hTf => ?_
  have S1 : ∃ F1, Ex F F1 ∧ F1 c' = some (LamX.CodeO c' (X.env.qual ++ "<lambda>")) ∧ Sta X.K F0 T F1 G H1 r σ := by
    rcases dj with ⟨rfl, hpc⟩ | ⟨more, nc, ht2, ham, rfl⟩
    · exact ⟨F, Ex.refl _, hpc, S⟩
    · refine ⟨_, Ex.new (S.bas.freshF nc).1, upd_same, S.tab hP nc ht2 fun p' cv hcv => ?_⟩
      rcases ham p' cv hcv with z | z
      · exact .inl (hco p' cv z)
      · exact .inr z
  obtain ⟨F1, eF, hF, S1⟩ := S1
  have hFf := (S1.bas.freshF hfn).1
  have I2 := inv_track (u := ObO f _) I I1 hge hfn (obO_ok hf)
  have S2 := S1.newF (o := ObO f (lamOb (X.env.qual ++ "<lambda>") params body scope (cloFrom X.env.cells scope.names []) T1 doc1 pm' c' ctv)) hfn
  have hTn2 : upd H1 f (ObO f (lamOb (X.env.qual ++ "<lambda>") params body scope (cloFrom X.env.cells scope.names []) T1 doc1 pm' c' ctv)) T1 = none := by rw [upd_ne hTf]; exact hTn1
  have I3 := inv_track (u := ObO T1 _) I I2 hgeT hTn2 (obO_ok hT1)
  have S3 := S2.newF (o := ObO T1 (PySem.W.kdv_tup [.int n tk1])) hTn2
  have hFT := (S2.bas.freshF hTn2).1
  have q := h f c' [(f, ObO f (lamOb (X.env.qual ++ "<lambda>") params body scope (cloFrom X.env.cells scope.names []) T1 doc1 pm' c' ctv)), (T1, ObO T1 (PySem.W.kdv_tup [.int n tk1])), (c', LamX.CodeO c' (X.env.qual ++ "<lambda>"))] ⟨by simp, LS.free, fun k Ng qg sg g cdg a pn xe W E tb p1 p2 pins σ1 H s I tk hW hr hb hN hv h1 h2 => by
    obtain ⟨kb, hkb1, hkb2⟩ := hbind (X.env.qual ++ "<lambda>") (cloFrom X.env.cells scope.names []) T1 doc1 pm' (.ref c') ctv (.int n tk1)
    exact PE.weak (pe_actFD (CXg := C8.CX0) (Eg := C8.E0) (i := 0) (f := f) (c' := c') (params := params) (k := k) (tb := tb) (E := E) (p1 := p1) (p2 := p2) I LS hkb1 hkb2 tk hW hr hb hN hv h1 h2) fun σ H Q ⟨z1, z2, z3, z4⟩ => ⟨z1, z2, ⟨z3 _ List.mem_cons_self, z3 _ (List.mem_cons_of_mem _ List.mem_cons_self)⟩, z4⟩⟩
  refine ⟨.ref f, _, I3, rfl, .sh (.hob f _), r, G, _, (eF.trans (Ex.new hFf)).trans (Ex.new hFT), S3, ⟨rfl, fun q hq => ?_⟩, q⟩
  rcases List.mem_cons.mp hq with rfl | hq
  · exact Ex.new hFT _ _ upd_same
  · rcases List.mem_cons.mp hq with rfl | hq
    · exact upd_same
    · rcases List.mem_singleton.mp hq with rfl
      exact Ex.new hFT _ _ (Ex.new hFf _ _ hF)
end
/-- the def's state comes back from its block's -/
theorem blk_back {X : Cx} {pins pins' : List (Addr × Obj)} {σ σ' : L2.St} {H H' : Hp} {s s' : Shared} {scope : Scope} {ce : Env} {fp : List Addr} (I : Inv X pins σ H s) (hfp : ∀ b ∈ fp, FpOk X pins H b) (J : Inv (X.blk s H scope ce fp) pins' σ' H' s') : Inv X pins σ H' s' :=
  I.call' (ch := fp) J.os J.base J.hok J.bare fun b hb => let ⟨_, h1, _, h3, h4, h5⟩ := hfp b hb; ⟨h3, h1, h4, h5⟩
section
variable {X : Cx} {elt tg iter : Expr} {ifs : List Expr} {scope : Scope} {own : List (Str × Nat)} {pos : Pos} {wi : TI} {g : TG} {tt : TT} {te : List (Addr × Obj) → L2.St → TE}
theorem pe_lcI (hc : X.calm = true) (hN : X.N.Nodup) (hi : PI X tg iter wi) (ok : BlkOk X.N X.env.scope scope own)
    (hg : ∀ (s : Shared) (H : Hp) (C : Addr) (cl : List (Str × Addr)) (fp : List Addr), PG (X.blk s H scope (compEnvC scope cl C X.env) fp) tg g) (ht : ∀ (s : Shared) (H : Hp) (C : Addr) (cl : List (Str × Addr)) (fp : List Addr), PTs (X.blk s H scope (compEnvC scope cl C X.env) fp) ifs tt)
    (he : ∀ (pins : List (Addr × Obj)) (σ : L2.St) (s : Shared) (H : Hp) (C : Addr) (cl : List (Str × Addr)) (fp : List Addr), Inv X pins σ H s → (∀ b ∈ fp, FpOk X pins H b) → PE (X.blk s H scope (compEnvC scope cl C X.env) fp) elt (te pins σ)) (hs : ∀ x, foldedSetIterable iter X.env x = pure x) :
    PE X (.ListComp elt [⟨tg, iter, ifs, 0⟩] scope pos) (fun σ H Q => ∀ pins, tLc wi g tt (te pins σ) (own.map (·.2)) σ H Q) := by
  refine ⟨fun pins s σ H Q I h => ?_⟩
  rw [eval_ListComp]
  have fre : ∀ y ∈ scope.names, y.2 = .free → ∃ c, X.env.cells.lookup y.1 = some c := fun y hy e => I.ok.has _ (ok.free y hy e)
  refine wpAny_comprehension_free (use := none) rfl hs (closure_ok fre) ok.kind (fun y hy e => by rw [ok.uniq y hy, e]) (thn (hi.run pins s σ H _ I (h pins)) fun xv s1 hx => thn hx fun itv s2 ⟨it, fp, tn, J, H2, e2, I2, T, st2, f2, hD⟩ => ?_)
  subst e2
  refine wpAny_newObj_type (newEnv_comp ?_) (by show 0 ≤ sizeLine; decide)
  -- the new list
  have fresh : H2 s2.heap.objs.size = none := I2.hok.fresh (Nat.le_refl _)
  obtain ⟨W, ⟨m0, w0⟩, turn⟩ := hD _ fresh
  obtain ⟨D, eD⟩ : ∃ D, D = s2.heap.objs.size := ⟨_, rfl⟩
  obtain ⟨s3, es3⟩ : ∃ s3 : Shared, s3 = { s2 with heap := s2.heap.push { cls := .type "list", data := .seq ([] : List Value).toArray } } := ⟨_, rfl⟩
  obtain ⟨H3, eH3⟩ : ∃ H3, H3 = upd H2 D (.lst []) := ⟨_, rfl⟩
  have hp3 : s3.heap = s2.heap.push { cls := .type "list", data := .seq ([] : List Value).toArray } := by rw [es3]
  have I3 : Inv X pins σ H3 s3 := by
    rw [es3, eH3]
    refine I2.laid (t' := s2.toks) (fun b o e => Heap.get?_push_of_some _ e) (Nat.le_of_eq eD.symm) ⟨Nat.zero_le _, [], 0, .nil, ?_⟩
    rw [eD]; exact Heap.get?_push_size _ rfl
  rw [← eD] at w0 turn
  rw [← eH3] at w0
  have lt2 : ∀ b ∈ fp, b < s2.heap.objs.size := fun b hb => let ⟨_, e, _⟩ := T.obj _ _ st2 b hb; Heap.lt_size e
  have f3 : ∀ b ∈ fp, FpOk X pins H3 b := fun b hb => ⟨by rw [eH3, upd_ne (by rw [eD]; exact Nat.ne_of_lt (lt2 b hb))]; exact (f2 b hb).1, (f2 b hb).2⟩
  have I4 := block_start I3 ok hN fun b hb => ⟨f3 b hb, by rw [hp3, Heap.size_push]; exact Nat.lt_succ_of_lt (lt2 b hb)⟩
  rw [← eD, ← es3]
  show codeAny _ _ (.compStart (.ListComp elt [⟨tg, iter, ifs, 0⟩] scope pos) 0 (.ref it) (.ref D) (compEnvC scope (cellsFrom (s3.heap.objs.size + 1) scope.names (cloFrom X.env.cells scope.names [])) s3.heap.objs.size X.env)) (compPost (model X.prog X.w) X.A X.xe none _ (.ref D) s3.heap.objs.size) { s3 with heap := pushCells (s3.heap.push { cls := .type "dict", data := .dict #[] }) scope.names }
  have pg := hg s3 H3 s3.heap.objs.size (cellsFrom (s3.heap.objs.size + 1) scope.names (cloFrom X.env.cells scope.names [])) fp
  have pt := ht s3 H3 s3.heap.objs.size (cellsFrom (s3.heap.objs.size + 1) scope.names (cloFrom X.env.cells scope.names [])) fp
  have pe := he pins σ s3 H3 s3.heap.objs.size (cellsFrom (s3.heap.objs.size + 1) scope.names (cloFrom X.env.cells scope.names [])) fp I3 f3
  have cL : (compEnvC scope (cellsFrom (s3.heap.objs.size + 1) scope.names (cloFrom X.env.cells scope.names [])) s3.heap.objs.size X.env).locals = s3.heap.objs.size := rfl
  generalize compEnvC scope (cellsFrom (s3.heap.objs.size + 1) scope.names (cloFrom X.env.cells scope.names [])) s3.heap.objs.size X.env = ce at I4 pg pt pe cL ⊢
  have kp4 : ∀ b o, s2.heap.get? b = some o → ({ s3 with heap := pushCells (s3.heap.push { cls := .type "dict", data := .dict #[] }) scope.names } : Shared).heap.get? b = some o := fun b o e => pushCells_keeps _ _ _ _ (Heap.get?_push_of_some _ (by rw [hp3]; exact Heap.get?_push_of_some _ e))
  generalize ({ s3 with heap := pushCells (s3.heap.push { cls := .type "dict", data := .dict #[] }) scope.names } : Shared) = s4 at I4 kp4 ⊢
  have st4 : tn 0 s4.heap := T.keep _ _ _ st2 fun b _ o e => kp4 b o e
  obtain ⟨τ, eτ⟩ : ∃ τ, τ = L2.wipe σ (own.map (·.2)) := ⟨_, rfl⟩
  rw [← eτ] at I4
  -- the iterator's objects in the block
  have far : ∀ {σ' : L2.St} {H' : Hp} {s' : Shared}, Inv (X.blk s3 H3 scope ce fp) [] σ' H' s' → (∀ b ∈ fp, H' b = none) → ∀ b ∈ fp, FpOk (X.blk s3 H3 scope ce fp) [] H' b := fun {σ' H' s'} K hn b hb =>
    ⟨hn b hb, (K.ok.exf b hb).1, K.ok.exfs b hb, .inl hb, (K.ok.exf b hb).2, fun p hp => nomatch (show p ∈ ([] : List (Addr × Obj)) ++ [] from hp)⟩
  have loop : codeAny (model X.prog X.w) X.A (.compLoop (.ListComp elt [⟨tg, iter, ifs, 0⟩] scope pos) 0 (.ref it) (.ref D) ce) (compPost (model X.prog X.w) X.A X.xe none (EP X pins σ Q) (.ref D) s3.heap.objs.size) s4 := by
    refine compLoop_any (fun n s' => ∃ i H', Inv (X.blk s3 H3 scope ce fp) [] τ H' s' ∧ tn i s'.heap ∧ (∀ b ∈ fp, H' b = none) ∧ W i n H') (fun n s5 ⟨i, H5, I5, st5, n5, w5⟩ => ?_) m0 ⟨0, H3, I4, st4, fun b hb => (f3 b hb).1, w0⟩
    rcases turn i n H5 w5 with ⟨stop, qq⟩ | ⟨go, Nx, hNx, step⟩
    · refine thnF (T.done (X.blk s3 H3 scope ce fp) rfl rfl rfl hc i [] s5 _ H5 (fun _ _ => False) I5 (far I5 n5) st5 stop) fun r s6 ⟨hr, I6⟩ => ?_
      subst hr
      have I7 := blk_back I3 f3 I6
      have nC : H5 s3.heap.objs.size = none := by rw [← cL]; exact I6.free
      obtain ⟨m, hn, _⟩ := I6.loc
      refine ⟨m, by rw [← cL]; exact hn, fun h'' sb => ?_⟩
      obtain ⟨z0, z1, _, z3, z4, z5⟩ := I3.fpOk (Nat.le_refl _) nC
      exact ⟨.ref D, H5, I7.turned (t' := s6.toks) (fun b o hb e => (sb.2 b hb).trans e) z0 z1 z3 z4 z5, rfl, qq⟩
    · refine thnF (T.item (X.blk s3 H3 scope ce fp) rfl rfl rfl hc i [] s5 _ H5 (fun _ _ => False) I5 (far I5 n5) st5 go) fun r s6 ⟨u, hr, h6⟩ => ?_
      subst hr
      refine thnF h6 fun _ s7 ⟨x, H7, I7, r7, y7, st7, n7⟩ => ?_
      have s7' := step x H7 y7
      rw [← eτ] at s7'
      refine thnF (pg.run _ s7 _ H7 x u _ (I7.pinned (far I7 n7) (T.obj _ _ st7)) r7 s7') fun _ s8 ⟨σ8, H8, I8, hw8, q8⟩ => thnF (pt.run _ s8 σ8 H8 _ I8 q8) fun b s9 ⟨H9, I9, q9⟩ => ?_
      -- on to the next turn
      have next : ∀ {s' : Shared} {H' : Hp}, Inv (X.blk s3 H3 scope ce fp) ([] ++ pinsAt fp s7.heap) σ8 H' s' → Nx H' → ∃ m, m < n ∧ ∃ i H', Inv (X.blk s3 H3 scope ce fp) [] τ H' s' ∧ tn i s'.heap ∧ (∀ b ∈ fp, H' b = none) ∧ W i m H' := fun {s' H'} K nx => by
        obtain ⟨m', hm, w'⟩ := hNx H' nx
        have pin' : ∀ b ∈ fp, ∀ o, s7.heap.get? b = some o → s'.heap.get? b = some o ∧ H' b = none := fun b hb o e => by
          have z := K.pin (b, o) (List.mem_append_right _ (List.mem_append_right _ (mem_pinsAt hb e)))
          exact ⟨z.1, z.2.1⟩
        refine ⟨m', hm, i + 1, H', (K.unpinned (pins := [])).weak (by rw [← hw8, wipe_length]) (fun j v e => (wipe_some (hw8.symm ▸ e)).1), T.keep _ _ _ st7 fun b hb o e => (pin' b hb o e).1, fun b hb => ?_, w'⟩
        obtain ⟨o, e, _⟩ := T.obj _ _ st7 b hb
        exact (pin' b hb o e).2
      cases b with
      | false =>
        simp only [Bool.false_eq_true, if_false] at q9 ⊢
        exact next I9 q9
      | true =>
        simp only [if_true] at q9 ⊢
        exact thnF (pe.run _ s9 σ8 H9 _ I9 q9) fun z s10 ⟨yv, H10, I10, r10, acc, hD10, hz10, nx⟩ => app_ok (X := X.blk s3 H3 scope ce fp) I10 hD10 hz10 r10 fun s11 I11 => next I11 nx
  exact codeAny_compStart_list loop (T.self X.A 0 _ _ _ st4 loop)
end
open Out (Rt)
/-- a block's context from which the def's own state comes back, its slots as rl tells -/
def LamB (X : Cy) (scope : Scope) (rl : Env2) (Fa : Hp) (Y : Cy) : Prop :=
  ∃ (s : Shared) (H : Hp) (C : Addr) (cl : List (Str × Addr)) (fp : List Addr) (pins : List (Addr × Obj)) (σ0 : L2.St), Y = { X.toCx.blk s H scope (compEnvC scope cl C X.env) fp with F0 := Fa, T := X.T, QX := fun _ _ _ => False } ∧ Ex X.F0 Fa ∧ rl.length = σ0.length ∧
    (∀ (i : Nat) (d : D), rl[i]? = some (.sh d) → ∃ v, σ0[i]? = some (some v) ∧ Rep X.K Fa d v) ∧ ∀ (pins' : List (Addr × Obj)) (σ' : L2.St) (H' : Hp) (s' : Shared), Inv Y.toCx pins' σ' H' s' → Inv X.toCx pins σ0 H' s'
theorem hide_sh : ∀ (r : Env2) (i : Nat) (d : D), (hide r)[i]? = some (.sh d) → r[i]? = some (.sh d)
  | [], i, d, h => by simp [hide] at h
  | .own _ :: r, 0, d, h => by simp [hide] at h
  | .no :: r, 0, d, h => by simp [hide] at h
  | .sh _ :: r, 0, d, h => by simpa [hide] using h
  | .own _ :: r, i + 1, d, h => by simpa using hide_sh r i d (by simpa [hide] using h)
  | .no :: r, i + 1, d, h => by simpa using hide_sh r i d (by simpa [hide] using h)
  | .sh _ :: r, i + 1, d, h => by simpa using hide_sh r i d (by simpa [hide] using h)
section
variable {X Y : Cy} {tg e elt : Expr} {ifs : List Expr} {r rl : Env2} {G : GD} {pos p : Pos} {Fa : Hp} {scope : Scope}
theorem LamB.k (h : LamB X scope rl Fa Y) : Y.K = X.K := by obtain ⟨_, _, _, _, _, _, _, rfl, _⟩ := h; rfl
theorem LamB.lk {F' T' : Hp} (h : LamB X scope rl Fa Y) (ef : Ex Fa F') (lk : Lk X F' T') : Lk Y F' T' := by
  obtain ⟨_, _, _, _, _, _, _, rfl, ex, _⟩ := h
  exact ⟨lk.t, ef, fun a o ho => (lk.ft a o ho).imp (fun z => ex _ _ z) id⟩
theorem LamB.tk (h : LamB X scope rl Fa Y) : Y.Tk := by
  obtain ⟨_, _, _, _, _, _, _, rfl, _⟩ := h
  exact takes0.imp fun _ _ _ _ ⟨_, _, _, _, _, _, z⟩ => z
/-- [elt for tg in e if ..], elt read where the def's state is at hand -/
theorem we_lcL (own : List (Str × Nat)) {Q : Res → Env2 → GD → Prop} (hc : X.calm = true) (hN : X.N.Nodup) (ok : BlkOk X.N X.env.scope scope own)
    (h : WI X tg e r G fun ds r2 G1 => ∀ Fa, ∃ I : Nat → List D → Env2 → GD → Prop, I 0 [] (wipeD r2 (own.map (·.2))) G1 ∧ (∀ (k : Nat) (d : D) (acc : List D) (r3 : Env2) (G3 : GD), ds[k]? = some d → I k acc r3 G3 → LcTurnB X scope (LamB X scope r2 Fa) tg elt ifs (own.map (·.2)) d acc r3 G3 (I (k + 1))) ∧
      ∀ acc r3 G3, I ds.length acc r3 G3 → Q (.fr (.lst acc)) r3 G3) (hs : ∀ x, foldedSetIterable e X.env x = pure x := by intro _; rfl) : WE X (.ListComp elt [⟨tg, e, ifs, 0⟩] scope pos) r G Q := fun F0 T F H σ lk S => by
  refine Run.of (pe_lcI (te := fun pins σ => fun σ' H' Q' => ∃ (rl : Env2) (Fa : Hp), Ex X.F0 Fa ∧ rl.length = σ.length ∧ (∀ (i : Nat) (d : D), rl[i]? = some (.sh d) → ∃ v, σ[i]? = some (some v) ∧ Rep X.K Fa d v) ∧ ∀ Y, LamB X scope rl Fa Y → Run Y elt σ' H' Q')
    hc hN piR ok blkG_ok blkT_ok (fun pins σ s H C cl fp I hfp => ⟨fun pins' s' σ' H' Q' J ⟨rl, Fa, ex, hl, sl, hr⟩ => hr { X.toCx.blk s H scope (compEnvC scope cl C X.env) fp with F0 := Fa, T := X.T, QX := fun _ _ _ => False } ⟨s, H, C, cl, fp, pins, σ, rfl, ex, hl, sl, fun _ _ _ _ K => blk_back I hfp K⟩ pins' s' J⟩) hs) ?_
  intro pins
  refine (h F0 T F H σ lk S).mono fun J H1 ⟨ds, r2, G1, Fa, e1, Sa, hJ, hI⟩ L hL => ?_
  obtain ⟨I, i0, it, ie⟩ := hI Fa
  obtain ⟨f1, f2, f3⟩ := Sa.bas.freshF hL
  have lka : Lk X Fa T := lk.base Sa.bas
  refine ⟨fun i m H' => m = ds.length - i ∧ i ≤ ds.length ∧ LcInv X.K T Fa (L2.wipe σ (own.map (·.2))) L (I i) H', ⟨ds.length, by simp, Nat.zero_le _, lc_begin Sa hL i0⟩, ?_⟩
  rintro i m H' ⟨rfl, hi, hI⟩
  obtain ⟨_, _, _, _, F', _, S', _⟩ := id hI
  obtain ⟨j1, j2⟩ := hJ F' H' S'.bas.ff S'.bas.fh
  by_cases hlt : i < ds.length
  · obtain ⟨j3, _⟩ := j2 i ds[i] (List.getElem?_eq_getElem hlt)
    refine .inr ⟨j3, fun H2 => LcInv X.K T Fa (L2.wipe σ (own.map (·.2))) L (I (i + 1)) H2, fun H2 p2 => ⟨ds.length - (i + 1), by omega, rfl, hlt, p2⟩, fun x H2 y => ?_⟩
    exact lc_stepB (B := LamB X scope r2 Fa) (te := fun σ' H' Q' => ∃ (rl : Env2) (Fa : Hp), Ex X.F0 Fa ∧ rl.length = σ.length ∧ (∀ (i : Nat) (d : D), rl[i]? = some (.sh d) → ∃ v, σ[i]? = some (some v) ∧ Rep X.K Fa d v) ∧ ∀ Y, LamB X scope rl Fa Y → Run Y elt σ' H' Q') lka f1 f3 hJ (List.getElem?_eq_getElem hlt) hI y (fun _ z => z.k) (fun _ z _ _ ef l => z.lk ef l) (fun σ' H' Q' q => ⟨r2, Fa, lka.f, Sa.len, fun i d z => Sa.slot z, q⟩) fun acc r' G' q => it i ds[i] acc r' G' (List.getElem?_eq_getElem hlt) q
  · have e : i = ds.length := by omega
    subst e
    exact .inl ⟨j1, (lc_end Sa.bas hL (wk_wipe _ _) Sa hI fun acc r' G' q => ie acc r' G' q).ext e1⟩
/-- x(w), w a kept lambda, x a def that catches -/
theorem we_lamC {x : Str} {okd : Option V} {hd : Exn → (D → Prop) → Prop} {k j : Nat} {y : Str} {py : Pos} {body : Expr} {ls : Scope} {r1 : Env2} {Q : Res → Env2 → GD → Prop} (hY : LamB X scope rl Fa Y) (L : LErr X.prog X.w X.K X.mg X.base x okd hd) (hg : Gl Y x) (hr : Room j X.A)
    {f c' : Addr} {os : List (Addr × HO)} (LK : LamK X ls body f c' os) (ha : WE Y (.Name y py) r G fun z r2 G2 => z = .sh (.hob f os) ∧ r2 = r1 ∧ G2 = G)
    (post : Res → GD → Prop) (px : Exn → GD → Prop)
    (hb : ∀ Z, LamY X ls k px Z → WE Z body (hide rl) G fun z _ G1 => (okd = none → ∃ d, z = .sh d) ∧ post z G1)
    (hk : ∀ z G1, post z G1 → match okd with | none => ∀ d, z = .sh d → Q (.sh d) r1 G1 | some v0 => ∃ d, (∀ F, Rep X.K F d v0) ∧ Q (.sh d) r1 G1)
    (hx : ∀ xn G1, px xn G1 → hd xn fun d => Q (.sh d) r1 G1)
    (hj : k + 2 ≤ j := by omega) (hdb : (x == ("__debug__" : Str)) = false := by decide) :
    WE Y (.Call (.Name x p) [.Name y py] [] pos) r G Q := fun F0 T F H σ lk S => by
  obtain ⟨g, st, fd, pa, Ng, Fo, hm, hbn, Sg, hNg, hva, ha1, ha2, hG⟩ := L.ex
  obtain ⟨oc, od, kV, doc, pm0, an, cdv, ct, osl, rfl, lkp, hcd⟩ := Fo.ex
  have hr2 : Room (k + 2) X.A := hr.mono hj
  have ef0 : Ex Fa F0 := by have := lk.f; obtain ⟨_, _, _, _, _, _, _, rfl, _⟩ := hY; exact this
  obtain ⟨s_, H_, C_, cl_, fp_, pinsX, σ0, eY, exF, hl0, sl0, back⟩ := hY
  subst eY
  intro pins s I
  refine wpAny_Call_Name_kw (ld_glob I hg hm ?_ hdb)
  refine PySem.W.callWith_K (h₀ := X.base) I.ok.mod.kin Fo.kp ?_ (by rfl) (by rfl)
  show wpAny _ _ (spliced ((false, eval (.Name y py) (compEnvC scope cl_ C_ X.env)) :: backTo pos (starEach [] (compEnvC scope cl_ C_ X.env)))) _ _ s
  refine Calls.spliced_cons (thn (ha F0 T F H σ lk S pins s I) fun u s1 ⟨v, H1, I1, rv, z, r2, G2, F1, eF, S1, rz, hz, hr1, hG1⟩ => ?_)
  subst hz hr1 hG1
  obtain ⟨hv, hos⟩ : v = .ref f ∧ ∀ p ∈ os, F1 p.1 = some p.2 := rz
  subst hv
  obtain rfl : u = Value.ref f := rv
  have IX : Inv X.toCx pinsX σ0 H1 s1 := back pins σ H1 s1 I1
  have hcc : H1 c' = some (LamX.CodeO c' (X.env.qual ++ "<lambda>")) := S1.bas.fh _ _ (hos _ LK.code)
  have eFa : Ex Fa F1 := (ef0.trans S.bas.ff).trans eF
  have Se : Sta X.K F1 (Tof G2 H1) F1 G2 H1 (hide rl) σ0 := by
    refine ⟨(S1.enter).bas, by rw [(hide_wk rl).len]; exact hl0, fun i s z => ?_, fun i j d e _ z => absurd z (hide_own rl i d)⟩
    cases s with
    | no => trivial
    | sh d => obtain ⟨v, q1, q2⟩ := sl0 i d (hide_sh rl i d z); exact ⟨v, q1, Rep.mono eFa _ _ q2⟩
    | own d => exact absurd z (hide_own rl i d)
  refine Calls.spliced_nil ⟨I1.kIn, ?_⟩
  have rc : codeAny (model X.prog X.w) X.A (.call (.ref g) ⟨[.ref f], []⟩) (CR C8.CX0 X.stack X.prog X.w H1 s1 (PostE X.K F0 T F σ Q) C8.E0) s1 := by
    refine LamX.run_ofS (N := Ng) (ps := [pa]) (us := [.ref f]) (vs := [.ref f]) lkp hcd Sg hr2 IX.env0 (hbn s1 [.ref f] IX.kIn rfl) (.cons rfl .nil) rfl fun hr' => ?_
    have key : ∃ t, PSs (zcx X.prog X.w X.K X.mg X.base Ng x (defScope st) g cdv X.A X.stack s1 H1).nox (defBody st) t ∧ t { nx := fun _ H' => (PostE X.K F0 T F σ Q) .non H', rt := PostE X.K F0 T F σ Q } (L2.start Ng [.ref f]) H1 := by
      refine hG cdv (X.env.qual ++ "<lambda>") X.A X.stack s1 H1 f c' (PostE X.K F0 T F σ Q)
        (fun E H' Q' => (∀ p ∈ os, H' p.1 = some p.2) ∧ ∀ (A : Around) (outer : List Env) (s0 : Shared) (H0 : Hp), Room k (A.deeper (LamX.lamEnv X.toCx ls s0.heap.objs.size f c')) → Run (LamX.lamCx X.toCx A outer s0 H0 E ls f c') body σ0 H' Q')
        (fun W pn xe E p1 p2 tk hW => ?_) hcc hr'.units
        ⟨fun cls d H' => ∃ G' F' xn, Bas X.K F1 (Tof G2 H1) F' G' H' ∧ ExOk X.K F' cls d xn ∧ px xn G', ⟨fun p hp => S1.bas.fh _ _ (hos p hp), fun A outer s0 H0 hr0 => ?_⟩, fun cls d H' hq => ?_⟩
      · exact LK.act k Ng x (defScope st) g cdv pa pn xe W E (fun σ' H' Q' => ∀ (A : Around) (outer : List Env) (s0 : Shared) (H0 : Hp), Room k (A.deeper (LamX.lamEnv X.toCx ls s0.heap.objs.size f c')) → Run (LamX.lamCx X.toCx A outer s0 H0 E ls f c') body σ' H' Q') p1 p2 pinsX σ0 H1 s1
          IX tk hW hr' (fun A outer s0 H0 hr0 => ⟨fun pins0 s1 σ1 H2 Q2 J hh => hh A outer s0 H0 hr0 pins0 s1 J⟩) hNg hva ha1 ha2
      · have tk : (X.lam A outer s0 H0 (fun cls d H' => ∃ G' F' xn, Bas X.K F1 (Tof G2 H1) F' G' H' ∧ ExOk X.K F' cls d xn ∧ px xn G') ls f c' F1 (Tof G2 H1) fun x _ G => px x G).Tk :=
          (takes_of (E := fun cls d H' => ∃ G' F' xn, Bas X.K F1 (Tof G2 H1) F' G' H' ∧ ExOk X.K F' cls d xn ∧ px xn G') rfl rfl rfl rfl).imp fun cls d σ' H' ⟨r', G', F', xn, S', ex, q⟩ => ⟨G', F', xn, S'.bas, ex, q⟩
        refine Run.mono (hb _ ⟨A, outer, s0, H0, _, f, c', F1, Tof G2 H1, hr0, tk, rfl⟩ F1 (Tof G2 H1) F1 H1 σ0 ⟨Ex.refl _, Ex.refl _, fun _ _ z => .inl z⟩ Se) fun v H' hq => ?_
        obtain ⟨z, r', G', F', eF', S', rz, hz, hp⟩ := hq
        have S2 := S1.after S'.bas
        have q := hk z G' hp
        cases okd with
        | none =>
          obtain ⟨d, rfl⟩ := hz rfl
          exact ⟨.sh d, _, G', F', eF.trans eF', S2, rz, q d rfl⟩
        | some v0 =>
          obtain ⟨d, h1, h2⟩ := q
          exact ⟨.sh d, _, G', F', eF.trans eF', S2, h1 F', h2⟩
      · obtain ⟨G', F', xn, B, ex, hp⟩ := hq
        have S2 := S1.after B
        exact ⟨F', G', xn, _, B.fh, B.gh, B.fg, ex, hx xn G' hp, fun v H'' F'' dres B2 rp hq2 => ⟨.sh dres, _, G', F'', (eF.trans B.ff).trans B2.ff, S2.after B2, rp, hq2⟩⟩
    obtain ⟨t', ht', hq'⟩ := key
    exact ⟨t', ht'.nox, hq'⟩
  refine wpAny_call (codeAny_mono rc fun res s2 hq => ?_)
  cases res with
  | error e => exact (show False from hq).elim
  | ok fl =>
    cases fl with
    | ret u => exact I1.after hq
    | next => exact False.elim hq
    | brk => exact False.elim hq
    | cont => exact False.elim hq
end
open Out (Rt)
section
variable {X : Cy} {tg e elt : Expr} {ifs : List Expr} {sts : List Stmt} {r rl : Env2} {G : GD} {pos p : Pos} {D0 : EndsD} {scope : Scope}
theorem Bas.drop {K : PySem.W.Frag} {F0 T F H : Hp} {G G' : GD} (B : Bas K F0 T F G' H) (h : ∀ a d, G a = some d → G' a = some d) : Bas K F0 T F G H :=
  ⟨B.ff, B.ft, B.fh, fun a d q => B.gh a d (h a d q), fun a o q => B.fg a o (h a o q), fun a o q => B.gt a o (h a o q), B.tk⟩
theorem none_drop {G G' : GD} (h : ∀ a d, G a = some d → G' a = some d) {p : Addr} (q : G' p = none) : G p = none := by
  cases e : G p with
  | none => rfl
  | some d => rw [h p d e] at q; cases q
theorem RtOk.drop {K : PySem.W.Frag} {T F H : Hp} {G G' : GD} (h : ∀ a d, G a = some d → G' a = some d) {x : Res} {v : V} (k : RtOk K T F G' H x v) : RtOk K T F G H x v := by
  cases x with
  | sh d => exact k
  | fr d => obtain ⟨p, k1, k2, k3, k4, k5⟩ := k; exact ⟨p, k1, k2, k3, none_drop h k4, k5⟩
  | pk i => exact k
theorem Frm.sub {G G' : GD} {fp : List Addr} (h : Frm [] G fp G') : ∀ a d, G a = some d → G' a = some d := fun a d q => by
  rw [h.1 a (fun z => nomatch z) (by rw [q]; exact fun z => nomatch z)]; exact q
end
open Out (Rt)
inductive At where
  | s (z : S) | i (n : Int)
deriving DecidableEq
abbrev eAt : At → D := fun v => match v with
  | .s z => eZ z
  | .i n => .int n
def At.s? : At → Option S
  | .s z => some z
  | .i _ => none
def At.i? : At → Option Int
  | .s _ => none
  | .i n => some n
@[simp] theorem At.s?_s (z : S) : (At.s z).s? = some z := rfl
@[simp] theorem At.s?_i (n : Int) : (At.i n).s? = none := rfl
@[simp] theorem At.i?_s (z : S) : (At.s z).i? = none := rfl
@[simp] theorem At.i?_i (n : Int) : (At.i n).i? = some n := rfl
open Out (Rt)
open Out (Rt)
section
variable {X : Cy} {e0 : Expr} {sts : List Stmt} {r : Env2} {G : GD} {pos : Pos} {D0 : EndsD} {α β : Type}
theorem wb_letH {e : α} {f : α → Out β} {Q : β → Prop} {E : Xm → Prop} (h : ((Out.ok e).bind f).sat Q E) (R : α → Env2) (hr : r = R e) (k : ∀ x, (f x).sat Q E → WB X sts (R x) G D0) : Hold (WB X sts r G D0) := ⟨wb_let h R hr k⟩
theorem ws_setH (i : Nat) {x : Str} {pos' : Pos} (hN : X.N.Nodup) (hi : X.N[i]? = some x) (hx : Loc X.env.scope x) (h : WE X e0 r G fun y r1 G1 => i < r1.length ∧ ∃ r2, putS r1 i y = some r2 ∧ D0.nx r2 G1)
    (hs : swapsWith e0 (some (.Name x pos')) pos.line X.env = pure false := by rfl) (hf : X.fn x = true ∨ X.env.scope.names.lookup x = some .local := by first | exact .inl rfl | exact .inr rfl | assumption) : Hold (WS X (.Assign [.Name x pos'] e0 pos) r G D0) := ⟨ws_set i hN hi hx h hs hf⟩
end
def Out.seqsS {ρ τ : Type} : List (τ → Out (ρ × τ)) → τ → Out (List ρ × τ)
  | [], t => .ok ([], t)
  | m :: ms, t => (m t).bind fun p => (Out.seqsS ms p.2).bind fun q => .ok (p.1 :: q.1, q.2)
theorem Out.seqsS_step {ρ τ β : Type} {m : τ → Out (ρ × τ)} {ms : List (τ → Out (ρ × τ))} {t : τ} {kk : List ρ × τ → Out β} {Q : β → Prop} {E : Xm → Prop} (h : ((Out.seqsS (m :: ms) t).bind kk).sat Q E) :
    (m t).sat (fun p => ((Out.seqsS ms p.2).bind fun q => kk (p.1 :: q.1, q.2)).sat Q E) E := by
  have h : (((m t).bind fun p => (Out.seqsS ms p.2).bind fun q => .ok (p.1 :: q.1, q.2)).bind kk).sat Q E := h
  cases hm : m t with
  | ok a =>
    rw [hm] at h
    have h : (((Out.seqsS ms a.2).bind fun q => .ok (a.1 :: q.1, q.2)).bind kk).sat Q E := h
    show ((Out.seqsS ms a.2).bind fun q => kk (a.1 :: q.1, q.2)).sat Q E
    cases hs : Out.seqsS ms a.2 with
    | ok vs => rw [hs] at h; exact h
    | ex x => rw [hs] at h; exact h
    | no => rw [hs] at h; exact h
  | ex x => rw [hm] at h; exact h
  | no => rw [hm] at h; exact h
/-- what a def that hands on tells; what is raised leaves the state as it was -/
def Out.caughtS {α ρ τ : Type} (hd : Xm → Option ρ) (inj : α → Option ρ) (m : τ → Out (α × τ)) (t : τ) : Out (ρ × τ) := match m t with
  | .ok a => (Out.get (inj a.1)).bind fun v => .ok (v, a.2)
  | .ex x => (Out.get (hd x)).bind fun v => .ok (v, t)
  | .no => .no
theorem caughtS_sat {α ρ τ : Type} {hd : Xm → Option ρ} {inj : α → Option ρ} {m : τ → Out (α × τ)} {t : τ} {Q0 : ρ × τ → Prop} {E0 : Xm → Prop} (h : (Out.caughtS hd inj m t).sat Q0 E0) :
    (m t).sat (fun a => ∃ v, inj a.1 = some v ∧ Q0 (v, a.2)) (fun x => ∃ v, hd x = some v ∧ Q0 (v, t)) := by
  unfold Out.caughtS at h
  cases hm : m t with
  | ok a =>
    rw [hm] at h
    have h : ((Out.get (inj a.1)).bind fun v => Out.ok (v, a.2)).sat Q0 E0 := h
    show ∃ v, inj a.1 = some v ∧ Q0 (v, a.2)
    cases hi : inj a.1 with
    | none => rw [hi] at h; exact h.elim
    | some v => rw [hi] at h; exact ⟨v, rfl, h⟩
  | ex x =>
    rw [hm] at h
    have h : ((Out.get (hd x)).bind fun v => Out.ok (v, t)).sat Q0 E0 := h
    show ∃ v, hd x = some v ∧ Q0 (v, t)
    cases hi : hd x with
    | none => rw [hi] at h; exact h.elim
    | some v => rw [hi] at h; exact ⟨v, rfl, h⟩
  | no => rw [hm] at h; exact h
theorem nums_map : ∀ {xs : List IB} {ys : List Int}, xs.mapM IB.int? = some ys → xs.map eIB = ys.map eI
  | [], ys, h => by cases h; rfl
  | x :: xs, ys, h => by
    rw [List.mapM_cons] at h
    cases x with
    | b v => cases h
    | i n =>
      cases h2 : xs.mapM IB.int? with
      | none => rw [h2] at h; cases h
      | some zs => rw [h2] at h; cases h; rw [List.map_cons, List.map_cons, nums_map h2]
theorem we_nums {X : Cy} {e : Expr} {r : Env2} {G : GD} {Q : Res → Env2 → GD → Prop} (h : WE X e r G fun z r1 G1 => ∃ (xs : List IB) (ys : List Int), z = .sh (.tup (xs.map eIB)) ∧ xs.mapM IB.int? = some ys ∧ Q (.sh (.tup (ys.map eI))) r1 G1) : WE X e r G Q :=
  h.mono fun z r1 G1 ⟨x, y, h1, h2, q⟩ => by subst h1; rw [nums_map h2]; exact q
theorem GS.keep {Ps : List As} {G G' : GD} (h : GS Ps G) (h1 : ∀ b, G b ≠ none → G' b = G b) : GS Ps G' := by
  have := (h.add (P := fun fp _ => fp = []) (fp := []) (G' := G') ⟨fun fp G e a ha => by rw [e] at ha; simp at ha, fun _ _ _ e _ => e⟩ rfl h1 (by simp)).take Ps.length
  rwa [List.take_left] at this
section
variable {X : Cy} {rl r : Env2} {pos p lpos : Pos} {cx : Nat → Addr} {α β ρ τ : Type} {body : Expr}
/-- what calling x with a kept lambda tells and changes -/
def LamOkS (X : Cy) (x : Str) (rl : Env2) (gg : τ → GD → Prop) (er : ρ → D) (d : D) (m : τ → Out (ρ × τ)) : Prop :=
  ∀ (scope : Scope) (Fa : Hp) (Y : Cy) (r r1 : Env2) (y : Str) (py p pos : Pos) (Q : Res → Env2 → GD → Prop) (Q0 : ρ × τ → Prop) (E0 : Xm → Prop) (t : τ) (G : GD), gg t G → LamB X scope rl Fa Y → Gl Y x → (WE Y (.Name y py) r G fun z r2 G2 => z = .sh d ∧ r2 = r1 ∧ G2 = G) → (m t).sat Q0 E0 →
    (∀ v t1 G1, Q0 (v, t1) → gg t1 G1 → Q (.sh (er v)) r1 G1) → WE Y (.Call (.Name x p) [.Name y py] [] pos) r G Q
theorem lam_okS {x : Str} {hdm : Xm → Option ρ} {k j : Nat} {ls : Scope} {f c' : Addr} {os : List (Addr × HO)} {m : τ → Out (α × τ)} (er : ρ → D) (inj : α → Option ρ) (gg : τ → GD → Prop) (L : LErr X.prog X.w X.K X.mg X.base x none (hdOf cx er hdm)) (hr : Room j X.A) (LK : LamK X ls body f c' os)
    (hb : ∀ (Y : Cy) (t : τ) (G : GD) (Q' : α × τ → Prop) (E' : Xm → Prop), gg t G → LamY X ls k (fun xn G1 => gg t G1 ∧ ∃ x, xn = xnOf cx x ∧ E' x) Y → (∀ a, Q' a → ∃ v, inj a.1 = some v) → (m t).sat Q' E' → WE Y body (hide rl) G fun z _ G1 => ∃ a, gg a.2 G1 ∧ Q' a ∧ ∀ v, inj a.1 = some v → z = .sh (er v))
    (hj : k + 2 ≤ j := by omega) (hdb : (x == ("__debug__" : Str)) = false := by decide) : LamOkS X x rl gg er (.hob f os) (Out.caughtS hdm inj m) := by
  intro scope Fa Y r r1 y py p pos Q Q0 E0 t G hG hY hg ha h hk
  refine we_lamC hY L hg hr LK ha (fun z G1 => ∃ (a : α × τ) (v : ρ), gg a.2 G1 ∧ Q0 (v, a.2) ∧ z = .sh (er v)) (fun xn G1 => gg t G1 ∧ ∃ x, xn = xnOf cx x ∧ ∃ v, hdm x = some v ∧ Q0 (v, t)) (fun Z hZ => ?_) (fun z G1 hz => ?_) (fun xn G1 hz => ?_) hj hdb
  · refine (hb Z t G (fun a => ∃ v, inj a.1 = some v ∧ Q0 (v, a.2)) (fun x => ∃ v, hdm x = some v ∧ Q0 (v, t)) hG hZ (fun _ z => z.imp fun _ y => y.1) (caughtS_sat h)).mono fun z r1 G1 ⟨a, h1, ⟨v, h2, h3⟩, h4⟩ => ⟨fun _ => ⟨_, h4 v h2⟩, a, v, h1, h3, h4 v h2⟩
  · obtain ⟨a, v, h1, h2, rfl⟩ := hz
    intro d hd
    cases hd
    exact hk v a.2 G1 h2 h1
  · obtain ⟨h0, x, rfl, v, h1, h2⟩ := hz
    exact ⟨x, v, rfl, h1, hk v t G1 h2 h0⟩
/-- [x(y) for y in e], e a list of kept lambdas -/
theorem we_lcLamS {x y : Str} {i : Nat} {G : GD} {e : Expr} {scope : Scope} {ps : List (D × (τ → Out (ρ × τ)))} {t0 : τ} {kk : List ρ × τ → Out β} {Q0 : β → Prop} {E0 : Xm → Prop} {py py2 pos2 : Pos} {Q : Res → Env2 → GD → Prop} (R : Env2) (er : ρ → D) (gg : τ → GD → Prop) (hq0 : ((Out.seqsS (ps.map (·.2)) t0).bind kk).sat Q0 E0) (hc : X.calm = true) (hN : X.N.Nodup) (ok : BlkOk X.N X.env.scope scope [(y, i)]) (hy : X.N[i]? = some y)
    (h : WI X (.Name y py) e r G fun ds r2 G2 => ds = ps.map (·.1) ∧ gg t0 G2 ∧ ps.length ≤ LIM ∧ Wk (wipeD r2 [i]) R ∧ R[i]? = some .no ∧ (∀ q ∈ ps, LamOkS X x r2 gg er q.1 q.2) ∧ ∀ v G3, gg v.2 G3 → (kk v).sat Q0 E0 → Q (.fr (.lst (v.1.map er))) R G3)
    (hgl : (relS scope X.env.scope).names.lookup x = some .globalImplicit := by rfl) (hloc : (relS scope X.env.scope).names.lookup y = some .local := by rfl) (hd : (y == ("__debug__" : Str)) = false := by decide) (hcd : (y == ("__classdict__" : Str)) = false := by decide)
    (hs : ∀ x, foldedSetIterable e X.env x = pure x := by intro _; rfl) :
    WE X (.ListComp (.Call (.Name x p) [.Name y py2] [] pos2) [⟨.Name y py, e, [], 0⟩] scope pos) r G Q := by
  refine WE.wkp (we_lcL [(y, i)] hc hN ok (h.mono fun ds r2 G2 ⟨hd1, hG, hl, w, hRi, hps, hk⟩ Fa => ?_) hs)
  subst hd1
  have hiR : i < R.length := (List.getElem?_eq_some_iff.mp hRi).1
  refine ⟨fun k acc r3 G3 => Wk r3 R ∧ ∃ ys t, gg t G3 ∧ acc = ys.map er ∧ ys.length = k ∧ ((Out.seqsS ((ps.drop k).map (·.2)) t).bind fun q => kk (ys ++ q.1, q.2)).sat Q0 E0, ⟨w, [], t0, hG, rfl, rfl, by simpa using hq0⟩, fun k d acc r3 G3 hd2 ⟨w3, ys, t, hG3, ha, hly, hq3⟩ => ?_, fun acc r3 G3 ⟨w3, ys, t, hG3, ha, hly, hq3⟩ => ?_⟩
  · subst ha
    obtain ⟨q, hq, rfl⟩ := map_at hd2
    have hlt : k < ps.length := (List.getElem?_eq_some_iff.mp hq).1
    rw [drop_at hq, List.map_cons] at hq3
    have st := Out.seqsS_step hq3
    rintro Y ⟨s1, H1, C1, cl, fp, rfl⟩
    refine WG.weak w3 (wg_name i hN hy (.inl hloc) (by simp) hiR (fun Y hY => ?_) (.inr hloc))
    have fact : Gl Y x ∧ Y.N = X.N ∧ Y.env.scope = relS scope X.env.scope := by obtain ⟨_, _, _, _, _, _, _, rfl, _⟩ := hY; exact ⟨hgl, rfl, rfl⟩
    refine hps q (List.mem_of_getElem? hq) scope Fa Y (R.set i (.sh q.1)) (R.set i (.sh q.1)) y py2 p pos2 _ _ _ t G3 hG3 hY fact.1 (we_var i (y := .sh q.1) (by rw [fact.2.1]; exact hy) (by rw [fact.2.2]; exact .inl hloc) (by unfold rdS; rw [List.getElem?_set_self hiR]) ⟨rfl, rfl, rfl⟩ hd hcd) st fun v t1 G4 hv hG4 => ⟨er v, _, rfl, by rw [List.length_map]; omega, ?_, ys ++ [v], t1, hG4, by rw [List.map_append]; rfl, by rw [List.length_append, hly]; rfl, ?_⟩
    · show Wk ((R.set i (.sh q.1)).set i .no) R
      rw [List.set_set]
      have : R.set i .no = R := by
        refine List.ext_getElem? fun j => ?_
        by_cases hj : i = j
        · subst hj; rw [List.getElem?_set_self hiR, hRi]
        · rw [List.getElem?_set_ne hj]
      rw [this]; exact Wk.refl _
    · simpa [List.append_assoc] using hv
  · subst ha
    rw [List.length_map, List.drop_length] at hq3
    exact ⟨R, w3, (fun i z => by cases z), hk (ys, t) G3 hG3 (by simpa [Out.seqsS, Out.bind] using hq3)⟩
theorem all2_zip {α β : Type} {P : α → β → Prop} {as : List α} {bs : List β} (h : All2 P as bs) : ∀ q, q ∈ as.zip bs → P q.1 q.2 := by
  induction h with
  | nil => intro q hq; cases hq
  | cons a _ ih =>
    intro q hq
    rw [List.zip_cons_cons] at hq
    rcases List.mem_cons.mp hq with rfl | z
    · exact a
    · exact ih q z
/-- .. the lambdas and what they tell in two lists -/
theorem we_lcLamT {x y : Str} {i : Nat} {G : GD} {e : Expr} {scope : Scope} {ds : List D} {ms : List (τ → Out (ρ × τ))} {t0 : τ} {kk : List ρ × τ → Out β} {Q0 : β → Prop} {E0 : Xm → Prop} {py py2 pos2 : Pos} {Q : Res → Env2 → GD → Prop} (R : Env2) (er : ρ → D) (gg : τ → GD → Prop) (hq0 : ((Out.seqsS ms t0).bind kk).sat Q0 E0) (hc : X.calm = true) (hN : X.N.Nodup) (ok : BlkOk X.N X.env.scope scope [(y, i)]) (hy : X.N[i]? = some y)
    (h : WI X (.Name y py) e r G fun ds2 r2 G2 => ds2 = ds ∧ gg t0 G2 ∧ ds.length ≤ LIM ∧ Wk (wipeD r2 [i]) R ∧ R[i]? = some .no ∧ All2 (fun d m => LamOkS X x r2 gg er d m) ds ms ∧ ∀ v G3, gg v.2 G3 → (kk v).sat Q0 E0 → Q (.fr (.lst (v.1.map er))) R G3)
    (hgl : (relS scope X.env.scope).names.lookup x = some .globalImplicit := by rfl) (hloc : (relS scope X.env.scope).names.lookup y = some .local := by rfl) (hd : (y == ("__debug__" : Str)) = false := by decide) (hcd : (y == ("__classdict__" : Str)) = false := by decide)
    (hs : ∀ x, foldedSetIterable e X.env x = pure x := by intro _; rfl) (hl : ds.length = ms.length := by rfl) :
    WE X (.ListComp (.Call (.Name x p) [.Name y py2] [] pos2) [⟨.Name y py, e, [], 0⟩] scope pos) r G Q := by
  have e1 : (ds.zip ms).map (·.1) = ds := List.map_fst_zip (Nat.le_of_eq hl)
  have e2 : (ds.zip ms).map (·.2) = ms := List.map_snd_zip (Nat.le_of_eq hl.symm)
  refine we_lcLamS (ps := ds.zip ms) R er gg (kk := kk) (t0 := t0) (by rw [e2]; exact hq0) hc hN ok hy (h.mono fun ds2 r2 G2 ⟨h1, h2, h3, h4, h5, h6, h7⟩ => ⟨by rw [h1, e1], h2, by rw [List.length_zip]; exact Nat.le_trans (Nat.min_le_left _ _) h3, h4, h5, ?_, h7⟩) hgl hloc hd hcd hs
  exact all2_zip h6
end
theorem Sta.poke {K : PySem.W.Frag} {F0 T F : Hp} {G : GD} {H : Hp} {r : Env2} {σ : L2.St} (S : Sta K F0 T F G H r σ) {p : Addr} {o : HO} (h1 : F p = none) (h2 : G p = none) (h3 : T p = none) (h4 : ∀ (i : Nat) (e : D), r[i]? = some (.own e) → σ[i]? ≠ some (some (.ref p))) : Sta K F0 T F G (upd H p o) r σ := by
  refine ⟨S.bas.put h1 h2 h3, S.len, fun j s e => ?_, S.ap⟩
  have q := S.sl j s e
  cases s with
  | no => trivial
  | sh d => exact q
  | own d =>
    obtain ⟨p', q1, q2, q3, q4, q5⟩ := q
    have hpp : p' ≠ p := fun z => by subst z; exact h4 j d e q1
    exact ⟨p', q1, q2.mono (Ex.refl _) fun u hu => by rw [upd_ne hpp]; exact hu, q3, q4, q5⟩
/-- xs * n, a tuple -/
theorem t_repT {X : Cy} {α : Type} {f : α → D} (xs : List α) {k : Int} (hk : (2 ≤ k ∧ k ≤ 1000) ∧ xs ≠ [] ∧ xs.length ≤ 1000) {Q : Res → Prop} (q : Q (.sh (.tup (((List.replicate k.toNat xs).flatten).map f)))) : OpW X (binaryOp .Mult) (.tup (xs.map f)) (.int k) Q :=
  fun F0 T F G H r σ va vb S h1 h2 => by
    obtain ⟨p1, vs, rfl, k1, k2⟩ := h1.tup S.bas.fh
    have e2 : vb = .int k := by
      rcases h2 with h | ⟨_, _, h⟩
      · exact h
      · exact h.elim
    subst e2
    have hl := k2.length
    rw [List.length_map] at hl
    have hne : vs ≠ [] := fun e => by rw [e] at hl; exact hk.2.1 (List.length_eq_zero_iff.mp hl.symm)
    refine ⟨_, op_repT, p1, k, vs, rfl, rfl, k1, hne, by omega, by omega, by omega, fun p hp => ?_⟩
    rw [flat_map] at q
    have ef : Ex F (upd F p (.tup (List.replicate k.toNat vs).flatten)) := Ex.new (S.bas.freshF hp).1
    exact ⟨.sh (.tup _), upd F p (.tup (List.replicate k.toNat vs).flatten), ef, S.newF hp, ⟨p, _, rfl, .inl (.inl upd_same), RepL.mono ef _ _ (repL_flat k2 _)⟩, q⟩
section
variable {X : Cy} {o : Expr} {r : Env2} {G : GD} {apos cpos lpos : Pos}
theorem poke_end {id : String} {ds args : List D} {F0 T F F1 H : Hp} {σ : L2.St} {p : Addr} {vs us : List V} {Q : Res → Env2 → GD → Prop} (e1 : Ex F F1) (S : Sta X.K F0 T F1 G H r σ) (h2 : H p = some (.lst vs)) (h3 : RepL X.K F1 ds vs) (hF : F1 p = none) (hG : G p = none) (hT : T p = none)
    (hs : ∀ (i : Nat) (e : D), r[i]? = some (.own e) → σ[i]? ≠ some (some (.ref p))) (ha : RepL X.K F1 args us) (h : MutW X id ds args fun res _ => Q (.sh res) r G) : mtU X id (.ref p) us H (PostE X.K F0 T F σ Q) := by
  obtain ⟨rr, k1, k2⟩ := h F1 H p vs us h2 hF S.bas.fh h3 ha
  refine ⟨_, MtR.post k1 _, k2, fun v' H' ⟨vs', res, ds', z1, z2, z3, z4⟩ => ?_⟩
  subst z1
  exact ⟨.sh res, _, G, F1, e1, S.poke hF hG hT hs, z2, z4⟩
theorem we_m0F {name : Str} {id : String} {Q : Res → Env2 → GD → Prop} (pa : PlainAttrs "list") (slot : Slot "list" name id) (hty : typeOf (.builtin id) = pure (.type "method_descriptor"))
    (h : WE X o r G fun x r1 G1 => ∃ ds, x = .fr (.lst ds) ∧ MutW X id ds [] fun res _ => Q (.sh res) r1 G1)
    (hbase : attributeBase o name X.env (eval o X.env) = eval o X.env := by rfl) (hline : (apos.endLine == cpos.line) = true := by rfl) :
    WE X (.Call (.Attribute o name apos) [] [] cpos) r G Q := fun F0 T F H σ lk S =>
  Run.of (pe_bm0 pa slot hty mtU_ok peR hbase hline) ((h F0 T F H σ lk S).mono fun v H1 ⟨x, r1, G1, F1, e1, S1, k1, ds, hx, h1⟩ => by
    subst hx
    obtain ⟨p, rfl, ⟨vs, h2, h3⟩, hF, hG, hT, hs⟩ := k1
    exact ⟨.inl ⟨rfl, vs, .inl (.inl h2)⟩, poke_end (args := []) e1 S1 h2 h3 hF hG hT hs rfl h1⟩)
theorem we_m1F {name : Str} {id : String} {n : Int} {kd : Nat} {Q : Res → Env2 → GD → Prop} (pa : PlainAttrs "list") (slot : Slot "list" name id) (hty : typeOf (.builtin id) = pure (.type "method_descriptor"))
    (h : WE X o r G fun x r1 G1 => ∃ ds, x = .fr (.lst ds) ∧ MutW X id ds [.int n] fun res _ => Q (.sh res) r1 G1)
    (hbase : attributeBase o name X.env (eval o X.env) = eval o X.env := by rfl)
    (hfew : ((backTo cpos (starEach [.Constant (.int n) kd lpos] X.env)).all (fun x => !x.1) && (backToKw cpos (keywordEach [] X.env)).all (fun x => x.1.isSome) && decide (([.Constant (.int n) kd lpos] : List Expr).length + ([] : List Keyword).length + (if ([] : List Keyword).isEmpty then 0 else 1) < 30)) = true := by rfl)
    (hline : (apos.endLine == cpos.line) = true := by rfl) (hs : starEach [.Constant (.int n) kd lpos] X.env = (false, eval (.Constant (.int n) kd lpos) X.env) :: starEach [] X.env := by rfl) (hplain : (backTo cpos (starEach [] X.env)).any (·.1) = false := by rfl) :
    WE X (.Call (.Attribute o name apos) [.Constant (.int n) kd lpos] [] cpos) r G Q := fun F0 T F H σ lk S =>
  Run.of (pe_bm pa slot hty mtU_ok peR (pa_cons peR pa_nil hs) hbase hfew hline hs hplain) ((h F0 T F H σ lk S).mono fun v H1 ⟨x, r1, G1, F1, e1, S1, k1, ds, hx, h1⟩ => by
    subst hx
    obtain ⟨p, rfl, ⟨vs, h2, h3⟩, hF, hG, hT, hsl⟩ := k1
    exact ⟨.inl ⟨rfl, vs, .inl (.inl h2)⟩, Run.of (pe_int (X := X.toCx)) (poke_end (args := [.int n]) e1 S1 h2 h3 hF hG hT hsl (.one rfl) h1)⟩)
theorem we_appendF {n : Int} {kd : Nat} {Q : Res → Env2 → GD → Prop} (h : WE X o r G fun x r1 G1 => ∃ ds, x = .fr (.lst ds) ∧ ds.length < LIM ∧ Q (.sh .non) r1 G1)
    (hbase : attributeBase o "append" X.env (eval o X.env) = eval o X.env := by rfl)
    (hfew : ((backTo cpos (starEach [.Constant (.int n) kd lpos] X.env)).all (fun x => !x.1) && (backToKw cpos (keywordEach [] X.env)).all (fun x => x.1.isSome) && decide (([.Constant (.int n) kd lpos] : List Expr).length + ([] : List Keyword).length + (if ([] : List Keyword).isEmpty then 0 else 1) < 30)) = true := by rfl)
    (hline : (apos.endLine == cpos.line) = true := by rfl) (hs : starEach [.Constant (.int n) kd lpos] X.env = (false, eval (.Constant (.int n) kd lpos) X.env) :: starEach [] X.env := by rfl) (hplain : (backTo cpos (starEach [] X.env)).any (·.1) = false := by rfl) :
    WE X (.Call (.Attribute o "append" apos) [.Constant (.int n) kd lpos] [] cpos) r G Q :=
  we_m1F PySem.F.plainAttrs_list PySem.F.slot_list_append PySem.F.type_list_append (h.mono fun x r1 G1 ⟨ds, h1, h2, h3⟩ => ⟨ds, h1, mw_append h2 h3⟩) hbase hfew hline hs hplain
theorem mw_clear {ds : List D} {Kt : D → List D → Prop} (k : Kt .non []) : MutW X "list.clear" ds [] Kt := fun F H p vs us hp hf ex h1 h2 => by
  cases (show us = [] from h2)
  exact ⟨_, mt_clear, p, vs, rfl, rfl, hp, [], .non, [], rfl, rfl, rfl, k⟩
theorem we_clearF {Q : Res → Env2 → GD → Prop} (h : WE X o r G fun x r1 G1 => ∃ ds, x = .fr (.lst ds) ∧ Q (.sh .non) r1 G1) (hbase : attributeBase o "clear" X.env (eval o X.env) = eval o X.env := by rfl) (hline : (apos.endLine == cpos.line) = true := by rfl) :
    WE X (.Call (.Attribute o "clear" apos) [] [] cpos) r G Q :=
  we_m0F PySem.F.plainAttrs_list PySem.F.slot_list_clear PySem.F.type_list_clear (h.mono fun x r1 G1 ⟨ds, h1, h3⟩ => ⟨ds, h1, mw_clear h3⟩) hbase hline
end
theorem foldl_rep {α : Type} (a : Array α) : ∀ (n : Nat) (b : Array α) (c : α), c ∈ ((List.replicate n a).foldl (· ++ ·) b).toList → c ∈ b.toList ∨ c ∈ a.toList
  | 0, b, c, h => .inl h
  | n + 1, b, c, h => by
    rw [List.replicate_succ, List.foldl_cons] at h
    rcases foldl_rep a n (b ++ a) c h with z | z
    · rw [Array.toList_append] at z
      exact List.mem_append.mp z
    · exact .inr z
theorem GS.two {P Q : As} {fp fq : List Addr} {G : GD} (hP : AOk P) (h1 : P fp G) (hQ : AOk Q) (h2 : Q fq G) (hd : ∀ a, a ∈ fp → a ∉ fq) : GS [P, Q] G := by
  refine ⟨[fp, fq], rfl, fun i R fr h h' => ?_, fun i j fr fs hij h h' a ha hb => ?_⟩
  · rcases i with _ | _ | i
    · cases h; cases h'; exact ⟨hP, h1⟩
    · cases h; cases h'; exact ⟨hQ, h2⟩
    · simp at h
  · rcases i with _ | _ | i
    · rcases j with _ | _ | j
      · exact hij rfl
      · cases h; cases h'; exact hd a ha hb
      · simp at h'
    · rcases j with _ | _ | j
      · cases h; cases h'; exact hd a hb ha
      · exact hij rfl
      · simp at h'
    · simp at h
theorem GS.boxHT {G0 : GD} {b g P : Addr} {q : Str} (hn : g ≠ b) (hP : G0 P = some (.tab q)) (hb : G0 b = none) (hg : G0 g = none) (x : Bh) : GS [bhA b g x, tabA P q] (bxH G0 b g x) := by
  have h1 : P ≠ b := fun z => by rw [z, hb] at hP; cases hP
  have h2 : P ≠ g := fun z => by rw [z, hg] at hP; cases hP
  refine GS.two (fp := [b, g]) (fq := [P]) (bhA_ok b g x) ⟨rfl, hn, updG_same, by unfold bxH; rw [updG_ne hn, updG_same]⟩ (tabA_ok P q) ⟨rfl, bxH_tab hP hb hg⟩ fun a ha z => ?_
  rw [List.mem_singleton] at z
  rcases List.mem_cons.mp ha with y | y
  · exact h1 (z.symm.trans y)
  · exact h2 (z.symm.trans (List.mem_singleton.mp y))
open L2 (ixN)
namespace Out
variable {α β σ ρ : Type}
/-- it ends with a value of which Q holds -/
def yes (m : Out α) (Q : α → Prop) : Prop := ∃ a, m = .ok a ∧ Q a
theorem yes_ok {a : α} {Q : α → Prop} (h : Q a) : (Out.ok a).yes Q := ⟨a, rfl, h⟩
theorem yes.mono {m : Out α} {Q Q' : α → Prop} (h : m.yes Q) (k : ∀ a, Q a → Q' a) : m.yes Q' := by
  obtain ⟨a, h1, h2⟩ := h; exact ⟨a, h1, k a h2⟩
theorem yes_bind {m : Out α} {f : α → Out β} {Q : β → Prop} {R : α → Prop} (h : m.yes R) (k : ∀ a, R a → (f a).yes Q) : (m.bind f).yes Q := by
  obtain ⟨a, rfl, h2⟩ := h; exact k a h2
theorem yes.eq {m : Out α} {a : α} (h : m.yes (· = a)) : m = .ok a := by obtain ⟨b, h1, h2⟩ := h; rw [h1, h2]
theorem bind_guard {p : Prop} [Decidable p] (h : p) {f : Unit → Out β} : (guard p).bind f = f () := by rw [guard_pos h]; rfl
theorem bind_get {o : Option α} {a : α} (h : o = some a) {f : α → Out β} : (get o).bind f = f a := by rw [h]; rfl
theorem yes_guard {p : Prop} [Decidable p] (h : p) {f : Unit → Out β} {Q : β → Prop} (k : (f ()).yes Q) : ((guard p).bind f).yes Q := by rw [bind_guard h]; exact k
theorem yes_get {o : Option α} {a : α} (h : o = some a) {f : α → Out β} {Q : β → Prop} (k : (f a).yes Q) : ((get o).bind f).yes Q := by rw [bind_get h]; exact k
theorem yes_let {a : α} {f : α → Out β} {Q : β → Prop} (k : (f a).yes Q) : ((Out.ok a).bind f).yes Q := k
theorem yes_ifF {c : Bool} {a b : Out α} {Q : α → Prop} (h : c = false) (k : b.yes Q) : (if c = true then a else b).yes Q := by rw [if_neg (by rw [h]; exact Bool.false_ne_true)]; exact k
theorem bind_assoc {γ : Type} {m : Out α} {f : α → Out β} {g : β → Out γ} : (m.bind f).bind g = m.bind fun a => (f a).bind g := by cases m <;> rfl
/-- comprehensions -/
theorem compS_unit {f : Unit → α → Out (Option β × Unit)} {o : α → Option β} : ∀ (xs : List α) (acc : List β), (∀ x, x ∈ xs → f () x = .ok (o x, ())) → compS f xs acc () = .ok (acc ++ xs.filterMap o, ())
  | [], acc, _ => by unfold compS; simp
  | x :: xs, acc, h => by
    unfold compS
    rw [h x List.mem_cons_self, bind_ok]
    rw [compS_unit xs _ fun y hy => h y (List.mem_cons_of_mem _ hy)]
    cases hx : o x with
    | none => simp [hx]
    | some y => simp [hx]
end Out
open Out (Rt)
section
variable {α β : Type}
theorem perm_of_mem [DecidableEq α] {xs ys : List α} (hx : xs.Nodup) (hy : ys.Nodup) (h : ∀ a, a ∈ xs ↔ a ∈ ys) : xs.Perm ys := by
  rw [List.perm_iff_count]
  intro a
  by_cases ha : a ∈ xs
  · have h1 := List.nodup_iff_count.mp hx a
    have h2 := List.nodup_iff_count.mp hy a
    have h3 := List.count_pos_iff.mpr ha
    have h4 := List.count_pos_iff.mpr ((h a).mp ha)
    omega
  · rw [List.count_eq_zero_of_not_mem ha, List.count_eq_zero_of_not_mem fun z => ha ((h a).mpr z)]
theorem nodup_of_lt {xs : List Int} (h : xs.Pairwise (· < ·)) : xs.Nodup := h.imp fun h => by omega
theorem le_of_lt {xs : List Int} (h : xs.Pairwise (· < ·)) : xs.Pairwise (· ≤ ·) := h.imp fun h => by omega
/-- sorted, by its members -/
theorem isort_eq {xs ys : List Int} (hx : xs.Nodup) (hy : ys.Pairwise (· < ·)) (h : ∀ a, a ∈ xs ↔ a ∈ ys) : isort xs = ys :=
  (isort_of (perm_of_mem (nodup_of_lt hy) hx fun a => (h a).symm) (le_of_lt hy)).symm
theorem sorted_ext {xs ys : List Int} (hx : xs.Pairwise (· < ·)) (hy : ys.Pairwise (· < ·)) (h : ∀ a, a ∈ xs ↔ a ∈ ys) : xs = ys :=
  sorted_unique (perm_of_mem (nodup_of_lt hx) (nodup_of_lt hy) h) (le_of_lt hx) (le_of_lt hy)
theorem mem_isort {xs : List Int} {a : Int} : a ∈ isort xs ↔ a ∈ xs := (isort_perm xs).mem_iff
theorem isort_lt {xs : List Int} (h : xs.Nodup) : (isort xs).Pairwise (· < ·) := by
  have h1 := isort_sorted xs
  have h2 : (isort xs).Nodup := (isort_perm xs).nodup_iff.mpr h
  have := h1.and h2
  exact this.imp fun ⟨a, b⟩ => by omega
theorem mem_rgI {a b x : Int} : x ∈ rgI a b ↔ a ≤ x ∧ x < b := by
  unfold rgI
  rw [List.mem_map]
  constructor
  · rintro ⟨i, hi, rfl⟩; rw [List.mem_range] at hi; omega
  · rintro ⟨h1, h2⟩; exact ⟨(x - a).toNat, by rw [List.mem_range]; omega, by omega⟩
theorem pix_pos {xs : List α} {i : Int} (h0 : 0 ≤ i) (h1 : i < xs.length) : pix xs i = xs[i.toNat]? := by
  unfold pix ixN
  rw [if_pos h0, if_pos h1]; rfl
theorem pix_some {xs : List α} {i : Int} (h0 : 0 ≤ i) (h1 : i < xs.length) : ∃ x, pix xs i = some x ∧ x ∈ xs := by
  rw [pix_pos h0 h1]
  have : i.toNat < xs.length := by omega
  exact ⟨xs[i.toNat], List.getElem?_eq_getElem this, List.getElem_mem _⟩
end
section
variable {κ ν : Type} [DecidableEq κ]
abbrev keys (kvs : List (κ × ν)) : List κ := kvs.map (·.1)
theorem dhas_iff {kvs : List (κ × ν)} {k : κ} : dhas kvs k = true ↔ k ∈ keys kvs := by
  unfold dhas keys
  rw [List.any_eq_true, List.mem_map]
  constructor
  · rintro ⟨p, h1, h2⟩; exact ⟨p, h1, by simpa using h2⟩
  · rintro ⟨p, h1, h2⟩; exact ⟨p, h1, by simpa using h2⟩
theorem dget_none {kvs : List (κ × ν)} {k : κ} : dget kvs k = none ↔ k ∉ keys kvs := by
  unfold dget keys
  rw [Option.map_eq_none_iff, List.find?_eq_none, List.mem_map]
  constructor
  · rintro h ⟨p, h1, h2⟩; exact h p h1 (by simpa using h2)
  · intro h p h1 h2; exact h ⟨p, h1, by simpa using h2⟩
theorem dget_some {kvs : List (κ × ν)} {k : κ} (h : k ∈ keys kvs) : ∃ v, dget kvs k = some v := by
  cases e : dget kvs k with
  | none => exact absurd h (dget_none.mp e)
  | some v => exact ⟨v, rfl⟩
theorem dput_eq (kvs : List (κ × ν)) (k : κ) (v : ν) : dput kvs k v = if dhas kvs k = true then kvs.map (fun p => if p.1 = k then (p.1, v) else p) else kvs ++ [(k, v)] := rfl
theorem keys_dput (kvs : List (κ × ν)) (k : κ) (v : ν) : keys (dput kvs k v) = if k ∈ keys kvs then keys kvs else keys kvs ++ [k] := by
  rw [dput_eq]; unfold keys
  by_cases h : k ∈ keys kvs
  · rw [if_pos (show dhas kvs k = true from dhas_iff.mpr h), if_pos h, List.map_map]
    apply List.map_congr_left
    intro p _
    by_cases e : p.1 = k
    · simp [e]
    · simp [e]
  · rw [if_neg (show ¬ dhas kvs k = true from fun z => h (dhas_iff.mp z)), if_neg h, List.map_append]; rfl
theorem mem_keys_dput {kvs : List (κ × ν)} {k x : κ} {v : ν} : x ∈ keys (dput kvs k v) ↔ x = k ∨ x ∈ keys kvs := by
  rw [keys_dput]
  split
  · constructor
    · exact .inr
    · rintro (rfl | h)
      · assumption
      · exact h
  · rw [List.mem_append, List.mem_singleton, or_comm]
theorem dput_nodup {kvs : List (κ × ν)} {k : κ} {v : ν} (h : (keys kvs).Nodup) : (keys (dput kvs k v)).Nodup := by
  rw [keys_dput]
  split
  · exact h
  · rename_i hk
    rw [List.nodup_append]
    exact ⟨h, by simp, fun a ha b hb => by rw [List.mem_singleton] at hb; subst hb; exact fun e => hk (e ▸ ha)⟩
theorem mem_keys_foldl (ps : List (κ × ν)) : ∀ (acc : List (κ × ν)) (x : κ), x ∈ keys (ps.foldl (fun acc p => dput acc p.1 p.2) acc) ↔ x ∈ keys acc ∨ x ∈ keys ps := by
  induction ps with
  | nil => intro acc x; simp
  | cons p r ih =>
    intro acc x
    rw [List.foldl_cons, ih, mem_keys_dput]
    show _ ↔ _ ∨ x ∈ p.1 :: keys r
    rw [List.mem_cons]
    constructor
    · rintro ((h | h) | h)
      · exact .inr (.inl h)
      · exact .inl h
      · exact .inr (.inr h)
    · rintro (h | h | h)
      · exact .inl (.inr h)
      · exact .inl (.inl h)
      · exact .inr h
theorem mem_keys_dmk {ps : List (κ × ν)} {x : κ} : x ∈ keys (dmk ps) ↔ x ∈ keys ps := by
  unfold dmk; rw [mem_keys_foldl]; simp
theorem foldl_nodup (ps : List (κ × ν)) : ∀ acc : List (κ × ν), (keys acc).Nodup → (keys (ps.foldl (fun acc p => dput acc p.1 p.2) acc)).Nodup := by
  induction ps with
  | nil => intro acc h; exact h
  | cons p r ih => intro acc h; exact ih _ (dput_nodup h)
theorem dmk_nodup (ps : List (κ × ν)) : (keys (dmk ps)).Nodup := foldl_nodup ps [] List.nodup_nil
end
/-- x can be come to from b by n steps -/
def Wkn (nbr : Int → List Int) (b : Int) : Nat → Int → Prop
  | 0, x => x = b
  | n + 1, x => ∃ y, Wkn nbr b n y ∧ x ∈ nbr y
def Dst (nbr : Int → List Int) (b : Int) (n : Nat) (x : Int) : Prop := Wkn nbr b n x ∧ ∀ m, m < n → ¬ Wkn nbr b m x
section
variable {nbr : Int → List Int} {b : Int}
theorem Dst.uniq {n m : Nat} {x : Int} (h : Dst nbr b n x) (k : Dst nbr b m x) : n = m := by
  rcases Nat.lt_trichotomy n m with z | z | z
  · exact absurd h.1 (k.2 n z)
  · exact z
  · exact absurd k.1 (h.2 m z)
/-- the places found up to level k -/
structure BInv (nbr : Int → List Int) (b : Int) (k : Nat) (found : List (Int × Int)) (level : List Int) : Prop where
  nd : (keys found).Nodup
  has : ∀ x, x ∈ keys found ↔ ∃ n, n ≤ k ∧ Wkn nbr b n x
  val : ∀ x d, dget found x = some d → ∃ n : Nat, d = (n : Int) ∧ Dst nbr b n x
  lv : ∀ x, x ∈ level ↔ Dst nbr b k x
  lnd : level.Nodup
theorem BInv.at {k : Nat} {found : List (Int × Int)} {level : List Int} (h : BInv nbr b k found level) {x : Int} {n : Nat} (hd : Dst nbr b n x) (hn : n ≤ k) : dget found x = some (n : Int) := by
  obtain ⟨v, hv⟩ := dget_some ((h.has x).mpr ⟨n, hn, hd.1⟩)
  obtain ⟨m, h1, h2⟩ := h.val x v hv
  rw [hv, h1, h2.uniq hd]
end
inductive Rch (R : Int → Int → Prop) : Int → Int → Prop
  | refl (x : Int) : Rch R x x
  | step {x y z : Int} : Rch R x y → R y z → Rch R x z
theorem Rch.trans {R : Int → Int → Prop} {x y z : Int} (h : Rch R x y) (k : Rch R y z) : Rch R x z := by
  induction k with
  | refl => exact h
  | step _ r ih => exact ih.step r
theorem Rch.one {R : Int → Int → Prop} {x y : Int} (h : R x y) : Rch R x y := (Rch.refl x).step h
theorem Rch.symm {R : Int → Int → Prop} (hs : ∀ a b, R a b → R b a) {x y : Int} (h : Rch R x y) : Rch R y x := by
  induction h with
  | refl => exact .refl _
  | step _ r ih => exact (Rch.one (hs _ _ r)).trans ih
/-- two steps on a bench -/
def RA (e a b : Int) (x y : Int) : Prop := 0 ≤ x ∧ x ≤ e ∧ 0 ≤ y ∧ y ≤ e ∧ (y = x + a ∨ y = x - a ∨ y = x + b ∨ y = x - b)
theorem RA.symm {e a b x y : Int} (h : RA e a b x y) : RA e a b y x := by unfold RA at *; omega
section
variable {nbr : Int → List Int} {b : Int}
theorem Wkn.add {n m : Nat} {x y : Int} (h : Wkn nbr b n y) (k : Wkn nbr y m x) : Wkn nbr b (n + m) x := by
  induction m generalizing x with
  | zero => cases (show x = y from k); exact h
  | succ m ih => obtain ⟨z, h1, h2⟩ := k; exact ⟨z, ih h1, h2⟩
theorem Wkn.one {x : Int} (h : x ∈ nbr b) : Wkn nbr b 1 x := ⟨b, rfl, h⟩
theorem Wkn.inv {P : Int → Prop} (hs : ∀ x y, P x → y ∈ nbr x → P y) (hb : P b) : ∀ {n : Nat} {x : Int}, Wkn nbr b n x → P x
  | 0, x, h => by cases (show x = b from h); exact hb
  | n + 1, x, ⟨y, h1, h2⟩ => hs y x (Wkn.inv hs hb h1) h2
theorem Wkn.symm {P : Int → Prop} (hs : ∀ x y, P x → y ∈ nbr x → P y ∧ x ∈ nbr y) (hb : P b) : ∀ {n : Nat} {x : Int}, Wkn nbr b n x → Wkn nbr x n b
  | 0, x, h => by cases (show x = b from h); exact rfl
  | n + 1, x, ⟨y, h1, h2⟩ => by
    have hy : P y := Wkn.inv (fun x y a c => (hs x y a c).1) hb h1
    have := (Wkn.one (hs y x hy h2).2).add (Wkn.symm hs hb h1)
    rw [Nat.add_comm] at this; exact this
theorem Dst.symm {P : Int → Prop} (hs : ∀ x y, P x → y ∈ nbr x → P y ∧ x ∈ nbr y) (hb : P b) {n : Nat} {x : Int} (h : Dst nbr b n x) : Dst nbr x n b := by
  have hx : P x := Wkn.inv (fun x y a c => (hs x y a c).1) hb h.1
  exact ⟨h.1.symm hs hb, fun m hm hw => h.2 m hm (hw.symm hs hx)⟩
/-- a place of each smaller distance -/
theorem Dst.count : ∀ {n : Nat} {x : Int}, Dst nbr b n x → ∃ ys : List Int, ys.length = n + 1 ∧ ys.Nodup ∧ ∀ y, y ∈ ys → ∃ m, m ≤ n ∧ Dst nbr b m y
  | 0, x, h => ⟨[x], rfl, by simp, fun y hy => by rw [List.mem_singleton] at hy; subst hy; exact ⟨0, Nat.le_refl _, h⟩⟩
  | n + 1, x, h => by
    obtain ⟨y, h1, h2⟩ := h.1
    have hy : Dst nbr b n y := ⟨h1, fun m hm hw => h.2 (m + 1) (by omega) ⟨y, hw, h2⟩⟩
    obtain ⟨ys, k1, k2, k3⟩ := hy.count
    refine ⟨x :: ys, by rw [List.length_cons, k1], ?_, fun z hz => ?_⟩
    · rw [List.nodup_cons]
      refine ⟨fun hx => ?_, k2⟩
      obtain ⟨m, hm, hd⟩ := k3 x hx
      have := hd.uniq h
      omega
    · rcases List.mem_cons.mp hz with rfl | hz
      · exact ⟨n + 1, Nat.le_refl _, h⟩
      · obtain ⟨m, hm, hd⟩ := k3 z hz; exact ⟨m, by omega, hd⟩
end
open Out (Rt)
theorem mem_uniq {ns : List Int} {k : Int} : k ∈ uniq ns ↔ k ∈ ns := by
  unfold uniq
  rw [mem_isort]
  show k ∈ keys (dmk _) ↔ _
  rw [mem_keys_dmk]
  unfold keys
  rw [List.map_map]
  simp
theorem uniq_lt (ns : List Int) : (uniq ns).Pairwise (· < ·) := isort_lt (dmk_nodup _)
theorem compS_none {α β : Type} {f : Unit → α → Out (Option β × Unit)} (xs : List α) (acc : List β) (h : ∀ x, x ∈ xs → f () x = .ok (none, ())) : Out.compS f xs acc () = .ok (acc, ()) := by
  rw [Out.compS_unit (o := fun _ => none) xs acc h]
  simp
section
variable {X : Cy} {a : Expr} {r : Env2} {G : GD} {pos p0 p1 p2 : Pos}
theorem we_sortU {Q : Res → Env2 → GD → Prop} (hcalm : X.calm = true) (hg : Gl X "sorted") (hm : X.mg "sorted" = none) (hg2 : Gl X "set") (hm2 : X.mg "set" = none)
    (h : WE X a r G fun x r1 G1 => ∃ ns : List Int, VwR r1 G1 x (.lst (ns.map D.int)) ∧ ns.length ≤ 1000 ∧ Q (.fr (.lst ((uniq ns).map D.int))) r1 G1)
    (he : starEach [.Call (.Name "set" p1) [a] [] p2] X.env = (false, eval (.Call (.Name "set" p1) [a] [] p2) X.env) :: starEach [] X.env := by rfl) (hpl : (backTo pos (starEach [] X.env)).any (·.1) = false := by rfl)
    (he2 : starEach [a] X.env = (false, eval a X.env) :: starEach [] X.env := by rfl) (hpl2 : (backTo p2 (starEach [] X.env)).any (·.1) = false := by rfl) :
    WE X (.Call (.Name "sorted" p0) [.Call (.Name "set" p1) [a] [] p2] [] pos) r G Q :=
  we_sortSet hcalm hg hm hg2 hm2 (h.mono fun x r1 G1 ⟨ns, q1, q2, q3⟩ => ⟨ns, q1, q2, fun out h1 h2 => by
    rw [sorted_ext h1 (uniq_lt ns) fun k => by rw [h2, mem_uniq]]
    exact q3⟩) he hpl he2 hpl2
end
open Out (Rt)
def topS (i : Nat) : Stmt := PySem.Challenge.pw_rulerbits_k43_origins_refused.main.body.getD i (.Pass ⟨0, 0, 0, 0⟩)
abbrev s_is_number : Stmt := topS 12
theorem sc_is_number : FnScope ["value", "lowest", "highest"] ["value", "lowest", "highest"] (defScope s_is_number) := ⟨rfl, rfl, rfl, by decide +kernel, rfl, by decide +kernel, by decide +kernel⟩
abbrev s_mirrored : Stmt := topS 13
theorem sc_mirrored : FnScope ["marks", "mark"] ["marks"] (defScope s_mirrored) := ⟨rfl, rfl, rfl, by decide +kernel, rfl, by decide +kernel, by decide +kernel⟩
abbrev s_Ruler_init : Stmt := inClass (topS 14) 1
theorem sc_Ruler_init : FnScope ["self", "marks", "error", "index", "mark", "lowest"] ["self", "marks", "error"] (defScope s_Ruler_init) := ⟨rfl, rfl, rfl, by decide +kernel, rfl, by decide +kernel, by decide +kernel⟩
abbrev s_Ruler_marks : Stmt := inClass (topS 14) 2
theorem sc_Ruler_marks : FnScope ["self"] ["self"] (defScope s_Ruler_marks) := ⟨rfl, rfl, rfl, by decide +kernel, rfl, by decide +kernel, by decide +kernel⟩
abbrev s_Ruler_len : Stmt := inClass (topS 14) 7
theorem sc_Ruler_len : FnScope ["self"] ["self"] (defScope s_Ruler_len) := ⟨rfl, rfl, rfl, by decide +kernel, rfl, by decide +kernel, by decide +kernel⟩
abbrev s_Ruler_turned : Stmt := inClass (topS 14) 9
theorem sc_Ruler_turned : FnScope ["self"] ["self"] (defScope s_Ruler_turned) := ⟨rfl, rfl, rfl, by decide +kernel, rfl, by decide +kernel, by decide +kernel⟩
abbrev s_moved : Stmt := topS 16
theorem sc_moved : FnScope ["marks", "mark"] ["marks"] (defScope s_moved) := ⟨rfl, rfl, rfl, by decide +kernel, rfl, by decide +kernel, by decide +kernel⟩
abbrev s_validate_piece : Stmt := topS 17
theorem sc_validate_piece : FnScope ["piece", "index", "place", "mark", "lowest"] ["piece", "index"] (defScope s_validate_piece) := ⟨rfl, rfl, rfl, by decide +kernel, rfl, by decide +kernel, by decide +kernel⟩
abbrev s_spots_on : Stmt := topS 18
theorem sc_spots_on : FnScope ["ruler", "piece", "found", "other", "first", "marks"] ["ruler", "piece"] (defScope s_spots_on) := ⟨rfl, rfl, rfl, by decide +kernel, rfl, by decide +kernel, by decide +kernel⟩
abbrev s_spots : Stmt := topS 19
theorem sc_spots : FnScope ["ruler", "piece"] ["ruler", "piece"] (defScope s_spots) := ⟨rfl, rfl, rfl, by decide +kernel, rfl, by decide +kernel, by decide +kernel⟩
abbrev s_Origin_init : Stmt := inClass (topS 24) 0
theorem sc_Origin_init : FnScope ["self", "rulers", "piece", "number", "ruler", "first", "turned"] ["self", "rulers", "piece"] (defScope s_Origin_init) := ⟨rfl, rfl, rfl, by decide +kernel, rfl, by decide +kernel, by decide +kernel⟩
abbrev s_Origin_candidates : Stmt := inClass (topS 24) 1
theorem sc_Origin_candidates : FnScope ["self"] ["self"] (defScope s_Origin_candidates) := ⟨rfl, rfl, rfl, by decide +kernel, rfl, by decide +kernel, by decide +kernel⟩
abbrev s_Origin_seen : Stmt := inClass (topS 24) 2
theorem sc_Origin_seen : FnScope ["self"] ["self"] (defScope s_Origin_seen) := ⟨rfl, rfl, rfl, by decide +kernel, rfl, by decide +kernel, by decide +kernel⟩
abbrev s_Origin_validate_index : Stmt := inClass (topS 24) 3
theorem sc_Origin_validate_index : FnScope ["self", "index"] ["self", "index"] (defScope s_Origin_validate_index) := ⟨rfl, rfl, rfl, by decide +kernel, rfl, by decide +kernel, by decide +kernel⟩
abbrev s_Origin_number_at : Stmt := inClass (topS 24) 4
theorem sc_Origin_number_at : FnScope ["self", "place", "index", "number", "first", "turned"] ["self", "place", "index"] (defScope s_Origin_number_at) := ⟨rfl, rfl, rfl, by decide +kernel, rfl, by decide +kernel, by decide +kernel⟩
abbrev s_Origin_tell : Stmt := inClass (topS 24) 5
theorem sc_Origin_tell : FnScope ["self", "word", "index", "number", "left", "place"] ["self", "word", "index", "number"] (defScope s_Origin_tell) := ⟨rfl, rfl, rfl, by decide +kernel, rfl, by decide +kernel, by decide +kernel⟩
abbrev s_Origin_see : Stmt := inClass (topS 24) 6
theorem sc_Origin_see : FnScope ["self", "index", "number"] ["self", "index", "number"] (defScope s_Origin_see) := ⟨rfl, rfl, rfl, by decide +kernel, rfl, by decide +kernel, by decide +kernel⟩
abbrev s_Origin_miss : Stmt := inClass (topS 24) 7
theorem sc_Origin_miss : FnScope ["self", "index", "number"] ["self", "index", "number"] (defScope s_Origin_miss) := ⟨rfl, rfl, rfl, by decide +kernel, rfl, by decide +kernel, by decide +kernel⟩
abbrev s_Origin_numbers : Stmt := inClass (topS 24) 8
theorem sc_Origin_numbers : FnScope ["self", "index", "place"] ["self", "index"] (defScope s_Origin_numbers) := ⟨rfl, rfl, rfl, by decide +kernel, rfl, by decide +kernel, by decide +kernel⟩
abbrev s_Origin_telling : Stmt := inClass (topS 24) 9
theorem sc_Origin_telling : FnScope ["self", "worst", "index", "some", "place", "number"] ["self"] (defScope s_Origin_telling) := ⟨rfl, rfl, rfl, by decide +kernel, rfl, by decide +kernel, by decide +kernel⟩
abbrev s_law_mix : Stmt := topS 26
theorem sc_law_mix : FnScope ["_law_script", "_law_seed", "_law_state", "_law_cell"] ["_law_script", "_law_seed"] (defScope s_law_mix) := ⟨rfl, rfl, rfl, by decide +kernel, rfl, by decide +kernel, by decide +kernel⟩
abbrev s_law_next : Stmt := topS 27
theorem sc_law_next : FnScope ["_law_h", "_law_limit", "_law_cell"] ["_law_h", "_law_limit"] (defScope s_law_next) := ⟨rfl, rfl, rfl, by decide +kernel, rfl, by decide +kernel, by decide +kernel⟩
abbrev s_law_alike : Stmt := topS 28
theorem sc_law_alike : FnScope ["_law_found", "_law_due", "_law_k"] ["_law_found", "_law_due"] (defScope s_law_alike) := ⟨rfl, rfl, rfl, by decide +kernel, rfl, by decide +kernel, by decide +kernel⟩
abbrev s_law_fail : Stmt := topS 29
theorem sc_law_fail : FnScope ["_law_work", "_law_e", "_law_kinds"] ["_law_work"] (defScope s_law_fail) := ⟨rfl, rfl, rfl, by decide +kernel, rfl, by decide +kernel, by decide +kernel⟩
abbrev s_law : Stmt := topS 30
theorem sc_law : FnScope ["_law_script", "_law_h", "_law_one", "_law_odd", "_law_works", "_law_due", "_law_origin", "_law_wrong", "_law_told", "_law_single", "_law_work"] ["_law_script"] (defScope s_law) := ⟨rfl, rfl, rfl, by decide +kernel, rfl, by decide +kernel, by decide +kernel⟩
abbrev z_another : S := ⟨"another", by decide +kernel⟩
abbrev z_marks : S := ⟨"marks", by decide +kernel⟩
abbrev z_error : S := ⟨"error", by decide +kernel⟩
abbrev z_see : S := ⟨"see", by decide +kernel⟩
abbrev z_miss : S := ⟨"miss", by decide +kernel⟩
abbrev z_InvalidNumber : S := ⟨"InvalidNumber", by decide +kernel⟩
abbrev z_InvalidPiece : S := ⟨"InvalidPiece", by decide +kernel⟩
abbrev z_NoPlace : S := ⟨"NoPlace", by decide +kernel⟩
structure S_Origin where
  all_rulers : List Rul
  size : Int
  left : List ((Int × Int × Bool))
  accepted : List ((S × Int × Int))
def mixB (ns : List Int) (seed : Int) : Int := ns.foldl (fun s n => (s * 48271 + n % 2147483629 + 1) % 2147483647) seed
def m_law_mix (ns : List Int) (h : ns.length ≤ 63) (seed : Int) : Bh := ⟨(ns, mixB ns seed, 0), h⟩
def m_law_next (m : Int) (bx : Bh) : Out (Int × Bh) :=
  (Out.guard (0 < m ∧ m < 2 ^ 200)).bind fun _ =>
  (Out.get (pix (bx.1.1 ++ [0]) (bx.1.2.2 % (if ((bx.1.1.length : Nat) : Int) > 1 then ((bx.1.1.length : Nat) : Int) else 1)))).bind fun cell =>
  if 1000000000000000000 ≤ cell then
    (Out.get (L2.ixN bx.1.1.length (bx.1.2.2 % ((bx.1.1.length : Nat) : Int)))).bind fun j =>
    (Out.guard (0 < ((bx.1.1.length : Nat) : Int))).bind fun _ => .ok (cell % m, ⟨(bx.1.1.set j (cell / m), bx.1.2), by rw [List.length_set]; exact bx.2⟩)
  else .ok ((bx.1.2.1 * 48271 + cell * 69621 + 11) % 2147483647 / 7 % m, ⟨(bx.1.1, (bx.1.2.1 * 48271 + cell * 69621 + 11) % 2147483647, bx.1.2.2 + 1), bx.2⟩)
def m_is_number (value1 : Int) (lowest2 : Int) (highest3 : Int) : Bool := (true && ((!false) && ((decide (lowest2 ≤ value1)) && (decide (value1 ≤ highest3)))))
def m_is_number_n (value1 : IB) (lowest2 : Int) (highest3 : Int) : Bool := (match value1 with | .i value1 => ((true && ((!false) && ((decide (lowest2 ≤ value1)) && (decide (value1 ≤ highest3)))))) | .b value1 => ((true && ((!true) && false))))
def mk_Ruler (marks1 : List Int) (error2 : Int) : Out (Rul) :=
(Out.fold (σ := Unit) (fun s3 (x5 : (Int × Int)) =>
(if (decide (x5.1 = (0 : Int))) = true then (Out.ok (0 : Int)) else ((Out.get (pix marks1 (x5.1 - (1 : Int)))).bind fun x8 =>
Out.ok (x8 + (1 : Int)))).bind fun i7 =>
if ((decide (x5.1 = (12 : Int))) || (!(m_is_number x5.2 i7 (if (decide (x5.1 = (0 : Int))) = true then (0 : Int) else (300 : Int))))) = true then (
Out.ex ⟨1, [("index", eI x5.1), ("part", eZ z_marks)]⟩)
else (
Out.ok ())) (penum marks1) ()).bind fun s4 =>
if (decide (((marks1).length : Int) < (2 : Int))) = true then (
Out.ex ⟨1, [("index", eI ((marks1).length : Int)), ("part", eZ z_marks)]⟩)
else (
if (!(m_is_number error2 (0 : Int) (9 : Int))) = true then (
Out.ex ⟨1, [("index", eI (0 : Int)), ("part", eZ z_error)]⟩)
else (
Out.ok ⟨error2, marks1⟩))
def m_Ruler_marks (self1 : Rul) : List Int := self1.marks
def m_Ruler___len (self1 : Rul) : Int := ((self1.marks).length : Int)
def m_mirrored (marks1 : List Int) : Out (List Int) :=
(Out.compS (fun (s4 : Unit) (x2 : Int) =>
(Out.get (pix marks1 (-(1 : Int)))).bind fun x6 =>
Out.ok (some (x6 - x2), ())) ((marks1).reverse) [] ()).bind fun l5 =>
Out.ok l5.1
def m_Ruler_turned (self1 : Rul) : Out (Rul) :=
(m_mirrored self1.marks).bind fun r2 =>
(mk_Ruler r2 self1.error).bind fun r3 =>
Out.ok r3
def m_moved (marks1 : List Int) : Out (List Int) :=
(Out.compS (fun (s4 : Unit) (x2 : Int) =>
(Out.get (pix marks1 (0 : Int))).bind fun x6 =>
Out.ok (some (x2 - x6), ())) marks1 [] ()).bind fun l5 =>
Out.ok l5.1
def m_validate_piece (piece1 : List IB) (index2 : Int) : Out (Unit) :=
(Out.fold (σ := Unit) (fun s3 (x5 : (Int × IB)) =>
(if (decide (x5.1 = (0 : Int))) = true then (Out.ok (0 : Int)) else ((Out.get (pix piece1 (x5.1 - (1 : Int)))).bind fun x8 =>
(Out.get (x8.int?)).bind fun n9 =>
Out.ok (n9 + (1 : Int)))).bind fun i7 =>
if ((decide (x5.1 = (12 : Int))) || (!(m_is_number_n x5.2 i7 (if (decide (x5.1 = (0 : Int))) = true then (0 : Int) else (300 : Int))))) = true then (
Out.ex ⟨8, [("index", eI index2)]⟩)
else (
Out.ok ())) (penum piece1) ()).bind fun s4 =>
if (decide (((piece1).length : Int) = (0 : Int))) = true then (
Out.ex ⟨8, [("index", eI index2)]⟩)
else (
Out.ok ())
def m_spots_on (ruler1 : Rul) (piece2 : List Int) : Out (List ((Int × Bool))) :=
(m_mirrored piece2).bind fun r3 =>
(Out.ok ([] : List ((Int × Bool)))).bind fun found4 =>
(Out.ok r3).bind fun other5 =>
(Out.guard (0 ≤ m_Ruler___len ruler1 ∧ m_Ruler___len ruler1 < 2 ^ 63)).bind fun _ =>
(Out.guard (RG (((m_Ruler___len ruler1) - ((piece2).length : Int)) + (1 : Int)))).bind fun _ =>
(Out.fold (σ := List ((Int × Bool))) (fun s6 (x8 : Int) =>
(m_moved (pcut (m_Ruler_marks ruler1) (some x8) (some (x8 + ((piece2).length : Int))))).bind fun r12 =>
(if (decide (r12 = piece2)) = true then (
(Out.guard ((s6).length < LIM)).bind fun _ =>
(Out.ok (s6 ++ [(x8, false)])).bind fun found16 =>
Out.ok found16)
else (
Out.ok s6) : Out (List ((Int × Bool)))).bind fun s13 =>
(if ((decide (r12 = other5)) && (!decide (other5 = piece2))) = true then (
(Out.guard ((s13).length < LIM)).bind fun _ =>
(Out.ok (s13 ++ [(x8, true)])).bind fun found20 =>
Out.ok found20)
else (
Out.ok s13) : Out (List ((Int × Bool)))).bind fun s17 =>
Out.ok s17) (rgI 0 (((m_Ruler___len ruler1) - ((piece2).length : Int)) + (1 : Int))) found4).bind fun s7 =>
Out.ok s7
def m_spots (ruler1 : Rul) (piece2 : List IB) : Out (List ((Int × Bool))) :=
(m_validate_piece piece2 (0 : Int)).bind fun r3 =>
(Out.get ((piece2).mapM IB.int?)).bind fun n4 =>
(m_spots_on ruler1 n4).bind fun r5 =>
Out.ok r5
def mk_Origin (rulers1 : List Rul) (piece2 : List IB) : Out S_Origin :=
if (!((decide ((1 : Int) ≤ ((rulers1).length : Int))) && (decide (((rulers1).length : Int) ≤ (6 : Int))))) = true then (
Out.ex ⟨6, []⟩)
else (
(Out.fold (σ := List ((Int × Int × Bool))) (fun s7 (x9 : (Int × Rul)) =>
(m_spots x9.2 piece2).bind fun r16 =>
(Out.guard ((s7).length + (r16.map (fun (x15 : (Int × Bool)) => (x9.1, x15.1, x15.2))).length ≤ LIM)).bind fun _ =>
Out.ok (s7 ++ (r16.map (fun (x15 : (Int × Bool)) => (x9.1, x15.1, x15.2))))) (penum rulers1) ([] : List ((Int × Int × Bool)))).bind fun s8 =>
if (decide (s8 = ([] : List ((Int × Int × Bool))))) = true then (
Out.ex ⟨19, []⟩)
else (
Out.ok (⟨rulers1, ((piece2).length : Int), s8, ([] : List ((S × Int × Int)))⟩ : S_Origin)))
def m_Origin_candidates (self1 : S_Origin) : List ((Int × Int × Bool)) := self1.left
def m_Origin_seen (self1 : S_Origin) : List ((S × Int × Int)) := self1.accepted
def m_Origin_validate_index (self1 : S_Origin) (index2 : IB) : Out (Unit) :=
if (!(m_is_number_n index2 (0 : Int) (self1.size - (1 : Int)))) = true then (
Out.ex ⟨6, []⟩)
else (
Out.ok ())
def m_Origin_number_at (self1 : S_Origin) (place2 : (Int × Int × Bool)) (index3 : Int) : Out (Int) :=
(Out.ok place2.1).bind fun number4 =>
(Out.ok place2.2.1).bind fun first5 =>
(Out.ok place2.2.2).bind fun turned6 =>
(Out.get (pix self1.all_rulers number4)).bind fun x7 =>
(Out.get (pix (m_Ruler_marks x7) (first5 + (if turned6 = true then (self1.size - (1 : Int)) - index3 else index3)))).bind fun x9 =>
Out.ok x9
def m_Origin_tell (self1 : S_Origin) (word2 : S) (index3 : IB) (number4 : Int) : Out (Int × S_Origin) :=
(m_Origin_validate_index self1 index3).bind fun r5 =>
(Out.compS (fun (s8 : Unit) (x6 : (Int × Int × Bool)) =>
(Out.get (index3.int?)).bind fun n10 =>
((m_Origin_number_at self1 x6 n10).nox).bind fun r11 =>
if (decide ((decide (r11 = number4)) = (decide (word2 = z_see)))) = true then (Out.ok (some x6, ())) else Out.ok (none, ())) self1.left [] ()).bind fun l9 =>
if (decide (l9.1 = ([] : List ((Int × Int × Bool))))) = true then (
Out.ex ⟨19, []⟩)
else (
(Out.get (index3.int?)).bind fun n14 =>
(Out.guard ((self1.accepted).length < LIM)).bind fun _ =>
Out.ok (((l9.1).length : Int), (⟨self1.all_rulers, self1.size, l9.1, self1.accepted ++ [(word2, n14, number4)]⟩ : S_Origin)))
def m_Origin_see (self1 : S_Origin) (index2 : IB) (number3 : Int) : Out (Int × S_Origin) :=
(m_Origin_tell self1 z_see index2 number3).bind fun r4 =>
Out.ok (r4.1, r4.2)
def m_Origin_miss (self1 : S_Origin) (index2 : IB) (number3 : Int) : Out (Int × S_Origin) :=
(m_Origin_tell self1 z_miss index2 number3).bind fun r4 =>
Out.ok (r4.1, r4.2)
def m_Origin_numbers (self1 : S_Origin) (index2 : IB) : Out (List Int) :=
(m_Origin_validate_index self1 index2).bind fun r3 =>
(Out.compS (fun (s6 : Unit) (x4 : (Int × Int × Bool)) =>
(Out.get (index2.int?)).bind fun n8 =>
((m_Origin_number_at self1 x4 n8).nox).bind fun r9 =>
Out.ok (some r9, ())) self1.left [] ()).bind fun l7 =>
(Out.guard ((l7.1).length ≤ 1000)).bind fun _ =>
Out.ok (uniq l7.1)
def m_Origin_telling (self1 : S_Origin) : Out (Int) :=
(Out.ok ([] : List Int)).bind fun worst2 =>
(Out.guard (RG self1.size)).bind fun _ =>
(Out.fold (σ := List Int) (fun s3 (x5 : Int) =>
(Out.compS (fun (s9 : Unit) (x7 : (Int × Int × Bool)) =>
((m_Origin_number_at self1 x7 x5).nox).bind fun r11 =>
Out.ok (some r11, ())) self1.left [] ()).bind fun l10 =>
(Out.get (maxI (l10.1.map (fun (x13 : Int) => ((l10.1).count x13 : Int))))).bind fun x15 =>
(Out.guard ((s3).length < LIM)).bind fun _ =>
(Out.ok (s3 ++ [x15])).bind fun worst17 =>
Out.ok worst17) (rgI 0 self1.size) worst2).bind fun s4 =>
(Out.get (minI s4)).bind fun x18 =>
(Out.get (idxI x18 s4)).bind fun x19 =>
Out.ok (x19 : Int)
def hs_law_fail_InvalidRuler : Out At :=
(Out.ok [false, false, false, true]).bind fun kinds1 =>
(Out.get (idxB true kinds1)).bind fun x2 =>
(Out.get (pix [z_InvalidNumber, z_InvalidPiece, z_NoPlace, z_another] (x2 : Int))).bind fun x3 =>
Out.ok (At.s x3)
theorem hs_law_fail_InvalidRuler_eq : hs_law_fail_InvalidRuler = .ok (At.s z_another) := by
  unfold hs_law_fail_InvalidRuler
  simp (config := {decide := true}) [Out.guard_pos]
  try rfl
def hs_law_fail_InvalidNumber : Out At :=
(Out.ok [true, false, false, true]).bind fun kinds1 =>
(Out.get (idxB true kinds1)).bind fun x2 =>
(Out.get (pix [z_InvalidNumber, z_InvalidPiece, z_NoPlace, z_another] (x2 : Int))).bind fun x3 =>
Out.ok (At.s x3)
theorem hs_law_fail_InvalidNumber_eq : hs_law_fail_InvalidNumber = .ok (At.s z_InvalidNumber) := by
  unfold hs_law_fail_InvalidNumber
  simp (config := {decide := true}) [Out.guard_pos]
  try rfl
def hs_law_fail_InvalidPiece : Out At :=
(Out.ok [false, true, false, true]).bind fun kinds1 =>
(Out.get (idxB true kinds1)).bind fun x2 =>
(Out.get (pix [z_InvalidNumber, z_InvalidPiece, z_NoPlace, z_another] (x2 : Int))).bind fun x3 =>
Out.ok (At.s x3)
theorem hs_law_fail_InvalidPiece_eq : hs_law_fail_InvalidPiece = .ok (At.s z_InvalidPiece) := by
  unfold hs_law_fail_InvalidPiece
  simp (config := {decide := true}) [Out.guard_pos]
  try rfl
def hs_law_fail_NoPlace : Out At :=
(Out.ok [false, false, true, true]).bind fun kinds1 =>
(Out.get (idxB true kinds1)).bind fun x2 =>
(Out.get (pix [z_InvalidNumber, z_InvalidPiece, z_NoPlace, z_another] (x2 : Int))).bind fun x3 =>
Out.ok (At.s x3)
theorem hs_law_fail_NoPlace_eq : hs_law_fail_NoPlace = .ok (At.s z_NoPlace) := by
  unfold hs_law_fail_NoPlace
  simp (config := {decide := true}) [Out.guard_pos]
  try rfl
def hd_law_fail (x : Xm) : Option At :=
if x.n = 1 then some (At.s z_another) else if x.n = 6 then some (At.s z_InvalidNumber) else if x.n = 8 then some (At.s z_InvalidPiece) else if x.n = 19 then some (At.s z_NoPlace) else none
def m_law (script1 : List Int) : Out (Bool) :=
(Out.guard ((script1).length ≤ 63)).bind fun _ =>
(mk_Ruler [(0 : Int), (3 : Int), (4 : Int), (9 : Int)] (0 : Int)).bind fun r3 =>
(m_law_next (5 : Int) (mixT m_law_mix script1 (43 : Int))).bind fun r4 =>
(Out.get (pix [[IB.i (((1 : Int), (2 : Int)).1), IB.i (((1 : Int), (2 : Int)).2)], ([] : List IB), [IB.i (((0 : Int), (2 : Int), (2 : Int)).1), IB.i (((0 : Int), (2 : Int), (2 : Int)).2.1), IB.i (((0 : Int), (2 : Int), (2 : Int)).2.2)], [IB.i (((0 : Int), (301 : Int)).1), IB.i (((0 : Int), (301 : Int)).2)], [IB.i (((0 : Int), (1 : Int), true).1), IB.i (((0 : Int), (1 : Int), true).2.1), IB.b (((0 : Int), (1 : Int), true).2.2)]] r4.1)).bind fun x5 =>
(Out.ok [At.s z_InvalidNumber, At.s z_InvalidNumber, At.s z_InvalidPiece, At.s z_InvalidPiece, At.s z_NoPlace, At.s z_NoPlace]).bind fun due13 =>
(Out.seqsS [(Out.caughtS hd_law_fail (fun (_ : Unit) => (none : Option At)) (fun (t : Unit) => ((mk_Origin ([] : List Rul) x5).bind fun r16 =>
Out.ok ((), ()) : Out (Unit × Unit)))),
(Out.caughtS hd_law_fail (fun (_ : Unit) => (none : Option At)) (fun (t : Unit) => ((Out.guard ((2 ≤ (7 : Int) ∧ (7 : Int) ≤ 1000) ∧ ([r3]).isEmpty = false ∧ ([r3]).length ≤ 1000)).bind fun _ =>
(mk_Origin ((List.replicate ((7 : Int)).toNat [r3]).flatten) [IB.i (0 : Int), IB.i (3 : Int)]).bind fun r18 =>
Out.ok ((), ()) : Out (Unit × Unit)))),
(Out.caughtS hd_law_fail (fun (_ : Unit) => (none : Option At)) (fun (t : Unit) => ((Out.guard ((2 ≤ (6 : Int) ∧ (6 : Int) ≤ 1000) ∧ ([r3]).isEmpty = false ∧ ([r3]).length ≤ 1000)).bind fun _ =>
(mk_Origin ((List.replicate ((6 : Int)).toNat [r3]).flatten) x5).bind fun r20 =>
Out.ok ((), ()) : Out (Unit × Unit)))),
(Out.caughtS hd_law_fail (fun (_ : Unit) => (none : Option At)) (fun (t : Unit) => ((mk_Origin [r3] x5).bind fun r21 =>
Out.ok ((), ()) : Out (Unit × Unit)))),
(Out.caughtS hd_law_fail (fun (_ : Unit) => (none : Option At)) (fun (t : Unit) => ((mk_Origin [r3, r3] [IB.i (0 : Int), IB.i (2 : Int)]).bind fun r22 =>
Out.ok ((), ()) : Out (Unit × Unit)))),
(Out.caughtS hd_law_fail (fun (_ : Unit) => (none : Option At)) (fun (t : Unit) => ((mk_Origin [r3] [IB.i (0 : Int), IB.i (1 : Int), IB.i (2 : Int), IB.i (3 : Int), IB.i (4 : Int)]).bind fun r23 =>
Out.ok ((), ()) : Out (Unit × Unit))))] ()).bind fun l14 =>
(Out.guard (l14.1 = due13 ∧ alB 1 ((eL eAt) l14.1) = true)).bind fun _ =>
if (!true) = true then (
Out.ok false)
else (
(m_Ruler_turned r3).bind fun r25 =>
(mk_Origin [r3, r25] [IB.i (0 : Int), IB.i (1 : Int)]).bind fun r26 =>
(m_law_next (3 : Int) r4.2).bind fun r29 =>
(Out.get (pix [IB.i (2 : Int), IB.i ((0 : Int) - (1 : Int)), IB.b true] r29.1)).bind fun x30 =>
(Out.ok x30).bind fun wrong31 =>
(Out.seqsS [(Out.caughtS hd_law_fail (fun a => some (At.i a)) (fun (t : S_Origin) => ((m_Origin_see t wrong31 (3 : Int)).bind fun r43 =>
Out.ok (r43.1, r43.2) : Out (Int × S_Origin)))),
(Out.caughtS hd_law_fail (fun a => some (At.i a)) (fun (t : S_Origin) => ((m_Origin_miss t wrong31 (3 : Int)).bind fun r49 =>
Out.ok (r49.1, r49.2) : Out (Int × S_Origin)))),
(Out.caughtS hd_law_fail (fun (_ : Unit) => (none : Option At)) (fun (t : S_Origin) => ((m_Origin_numbers t wrong31).bind fun r55 =>
Out.ok ((), t) : Out (Unit × S_Origin)))),
(Out.caughtS hd_law_fail (fun a => some (At.i a)) (fun (t : S_Origin) => ((m_Origin_see t (IB.i (0 : Int)) (77 : Int)).bind fun r60 =>
Out.ok (r60.1, r60.2) : Out (Int × S_Origin)))),
(Out.caughtS hd_law_fail (fun a => some (At.i a)) (fun (t : S_Origin) => ((m_Origin_miss t (IB.i (1 : Int)) (4 : Int)).bind fun r66 =>
Out.ok (r66.1, r66.2) : Out (Int × S_Origin))))] r26).bind fun l37 =>
(Out.guard (-(2 ^ 62) ≤ (3 : Int) ∧ (3 : Int) ≤ (LIM : Nat))).bind fun _ =>
(Out.guard ((List.replicate ((3 : Int)).toNat (At.s z_InvalidNumber)).length + ([At.s z_NoPlace, At.i (1 : Int)]).length ≤ LIM)).bind fun _ =>
(Out.guard (l37.1 = ((List.replicate ((3 : Int)).toNat (At.s z_InvalidNumber)) ++ [At.s z_NoPlace, At.i (1 : Int)]) ∧ alB 1 ((eL eAt) l37.1) = true)).bind fun _ =>
if (!true) = true then (
Out.ok false)
else (
(Out.guard ((m_Origin_seen l37.2).length < LIM)).bind fun _ =>
(m_Origin_numbers l37.2 (IB.i (0 : Int))).bind fun r78 =>
(m_Origin_numbers l37.2 (IB.i (0 : Int))).bind fun r87 =>
(m_Origin_numbers l37.2 (IB.i (1 : Int))).bind fun r92 =>
(m_Origin_telling l37.2).bind fun r95 =>
(Out.guard ((m_Origin_candidates l37.2, m_Origin_seen l37.2, r87, r92, r95) = ([((1 : Int), (1 : Int), false)], [(z_miss, (1 : Int), (4 : Int))], [(5 : Int)], [(6 : Int)], (0 : Int)) ∧ alB 3 ((fun p : (List ((Int × Int × Bool)) × List ((S × Int × Int)) × List Int × List Int × Int) => D.lst [(eT (eP3 eI eI eB)) p.1, (eL (eP3 eZ eI eI)) p.2.1, (eL eI) p.2.2.1, (eL eI) p.2.2.2.1, eI p.2.2.2.2]) (m_Origin_candidates l37.2, m_Origin_seen l37.2, r87, r92, r95)) = true)).bind fun _ =>
if (!true) = true then (
Out.ok false)
else (
(mk_Origin [r3] [IB.i (0 : Int)]).bind fun r97 =>
(Out.get (pix (m_Origin_candidates r97) (-(1 : Int)))).bind fun x102 =>
(m_Origin_numbers r97 (IB.i (0 : Int))).bind fun r107 =>
(m_Origin_see r97 (IB.i (0 : Int)) (9 : Int)).bind fun r112 =>
(Out.guard ((x102, r107, r112.1) = (((0 : Int), (3 : Int), false), [(0 : Int), (3 : Int), (4 : Int), (9 : Int)], (1 : Int)) ∧ alB 2 ((fun p : ((Int × Int × Bool)) × (List Int) × Int => D.lst [(eP3 eI eI eB) p.1, (eL eI) p.2.1, eI p.2.2]) (x102, r107, r112.1)) = true)).bind fun _ =>
Out.ok true)))
structure RulOk (r : Rul) : Prop where
  lt : r.marks.Pairwise (· < ·)
  hd : r.marks[0]? = some 0
  lo : 2 ≤ r.marks.length
  hi : r.marks.length ≤ 12
  le : ∀ m, m ∈ r.marks → m ≤ 300
  e0 : 0 ≤ r.error
  e9 : r.error ≤ 9
theorem ixN_pos {n : Nat} {i : Int} (h0 : 0 ≤ i) (h1 : i < (n : Int)) : L2.ixN n i = some i.toNat := by
  unfold L2.ixN
  rw [if_pos h0, if_pos (by omega)]
theorem next_yes {m : Int} (h0 : 0 < m) (h1 : m < 2 ^ 200) (bx : Bh) : (m_law_next m bx).yes fun r => 0 ≤ r.1 ∧ r.1 < m := by
  obtain ⟨⟨ns, st, ix⟩, hl⟩ := bx
  unfold m_law_next
  dsimp only at hl ⊢
  refine Out.yes_guard ⟨h0, h1⟩ ?_
  have hr : ∀ a : Int, 0 ≤ a % m ∧ a % m < m := fun a => ⟨Int.emod_nonneg _ (by omega), Int.emod_lt_of_pos _ h0⟩
  by_cases hn : ns.length ≤ 1
  · rw [if_neg (by omega)]
    obtain ⟨x, hx, hm⟩ := pix_some (xs := ns ++ [0]) (i := ix % 1) (by omega) (by rw [List.length_append, List.length_singleton]; omega)
    refine Out.yes_get hx ?_
    by_cases hc : 1000000000000000000 ≤ x
    · rw [if_pos hc]
      have h1 : ns.length = 1 := by
        rcases Nat.eq_zero_or_pos ns.length with z | z
        · have : ns = [] := List.eq_nil_of_length_eq_zero z
          subst this
          simp at hm; omega
        · omega
      rw [h1]
      refine Out.yes_get (ixN_pos (n := 1) (by omega) (by omega)) (Out.yes_guard (by omega) (Out.yes_ok (hr _)))
    · rw [if_neg hc]; exact Out.yes_ok (hr _)
  · have hp : (0 : Int) < ns.length := by omega
    rw [if_pos (by omega)]
    have i0 := Int.emod_nonneg ix (show (ns.length : Int) ≠ 0 by omega)
    have i1 := Int.emod_lt_of_pos ix hp
    obtain ⟨x, hx, hm⟩ := pix_some (xs := ns ++ [0]) i0 (by rw [List.length_append]; simp; omega)
    refine Out.yes_get hx ?_
    by_cases hc : 1000000000000000000 ≤ x
    · rw [if_pos hc]
      exact Out.yes_get (ixN_pos i0 i1) (Out.yes_guard hp (Out.yes_ok (hr _)))
    · rw [if_neg hc]; exact Out.yes_ok (hr _)
/-- marks that grow -/
structure Grown (n : Int) (wide : Int) (ms : List Int) : Prop where
  lt : ms.Pairwise (· < ·)
  hd : ms[0]? = some 0
  len : (ms.length : Int) = n + 1
  le : ∀ m, m ∈ ms → m ≤ n * wide
theorem Grown.ok {n wide e : Int} {ms : List Int} (h : Grown n wide ms) (h1 : 1 ≤ n) (h2 : n ≤ 11) (h3 : n * wide ≤ 300) (e0 : 0 ≤ e) (e9 : e ≤ 9) : RulOk ⟨e, ms⟩ :=
  ⟨h.lt, h.hd, by have := h.len; show 2 ≤ ms.length; omega, by have := h.len; show ms.length ≤ 12; omega, fun m hm => by have := h.le m hm; omega, e0, e9⟩
def Out.isok {α : Type} (m : Out α) : Bool := match m with
  | .ok _ => true
  | _ => false
def Out.val {α : Type} : (m : Out α) → m.isok = true → α
  | .ok a, _ => a
  | .ex _, h => Bool.noConfusion h
  | .no, h => Bool.noConfusion h
theorem Out.val_eq {α : Type} : ∀ (m : Out α) (h : m.isok = true), m = .ok (m.val h)
  | .ok _, _ => rfl
  | .ex _, h => Bool.noConfusion h
  | .no, h => Bool.noConfusion h
def Out.dec {α : Type} (m : Out α) (P : α → Bool) : Bool := match m with
  | .ok a => P a
  | _ => false
theorem yes_dec {α : Type} {m : Out α} {P : α → Bool} {Q : α → Prop} (h : m.dec P = true) (k : ∀ a, P a = true → Q a) : m.yes Q := by
  cases m with
  | ok a => exact ⟨a, rfl, k a h⟩
  | ex x => cases h
  | no => cases h
abbrev one43 : Rul := ⟨0, [0, 3, 4, 9]⟩
abbrev trn43 : Rul := ⟨0, [0, 5, 6, 9]⟩
theorem one43_eq : mk_Ruler [(0 : Int), (3 : Int), (4 : Int), (9 : Int)] (0 : Int) = .ok one43 := by with_unfolding_all rfl
theorem trn43_eq : m_Ruler_turned one43 = .ok trn43 := by with_unfolding_all rfl
theorem org43_ok : (mk_Origin [one43, trn43] [IB.i (0 : Int), IB.i (1 : Int)]).isok = true := by decide +kernel
def org43 : S_Origin := (mk_Origin [one43, trn43] [IB.i (0 : Int), IB.i (1 : Int)]).val org43_ok
theorem org43_eq : mk_Origin [one43, trn43] [IB.i (0 : Int), IB.i (1 : Int)] = .ok org43 := Out.val_eq _ _
theorem uniq_is {xs ys : List Int} (hy : ys.Pairwise (· < ·)) (h : ∀ a, a ∈ xs ↔ a ∈ ys) : uniq xs = ys := by
  unfold uniq
  refine isort_eq (dmk_nodup _) hy fun a => ?_
  exact (mem_isort.symm.trans (mem_uniq (ns := xs))).trans (h a)
abbrev o43 : S_Origin := ⟨[one43, trn43], 2, [((1 : Int), (1 : Int), false)], [(z_miss, (1 : Int), (4 : Int))]⟩
abbrev s43 : S_Origin := ⟨[one43], 1, [((0 : Int), (0 : Int), false), (0, 1, false), (0, 2, false), (0, 3, false)], []⟩
theorem num43a : m_Origin_numbers o43 (IB.i (0 : Int)) = .ok [5] := by
  rw [show m_Origin_numbers o43 (IB.i (0 : Int)) = .ok (uniq [5]) from by with_unfolding_all rfl, uniq_is (ys := [5]) (by decide) (fun _ => Iff.rfl)]
theorem num43b : m_Origin_numbers o43 (IB.i (1 : Int)) = .ok [6] := by
  rw [show m_Origin_numbers o43 (IB.i (1 : Int)) = .ok (uniq [6]) from by with_unfolding_all rfl, uniq_is (ys := [6]) (by decide) (fun _ => Iff.rfl)]
theorem num43c : m_Origin_numbers s43 (IB.i (0 : Int)) = .ok [0, 3, 4, 9] := by
  rw [show m_Origin_numbers s43 (IB.i (0 : Int)) = .ok (uniq [0, 3, 4, 9]) from by with_unfolding_all rfl, uniq_is (ys := [0, 3, 4, 9]) (by decide) (fun _ => Iff.rfl)]
theorem tel43 : m_Origin_telling o43 = .ok 0 := by with_unfolding_all rfl
theorem mk43 : mk_Origin [one43] [IB.i (0 : Int)] = .ok s43 := by with_unfolding_all rfl
theorem see43 : (m_Origin_see s43 (IB.i (0 : Int)) (9 : Int)).yes fun q => q.1 = 1 := yes_dec (P := fun q => decide (q.1 = 1)) (by decide +kernel) fun a h => of_decide_eq_true h
theorem law_true (ns : List Int) (hl : ns.length ≤ 63) : m_law ns = .ok true := by
  apply Out.yes.eq
  unfold m_law
  refine Out.yes_guard hl ?_
  rw [one43_eq, Out.bind_ok]
  refine Out.yes_bind (next_yes (by decide) (by decide) _) fun r4 h4 => ?_
  obtain ⟨x5, e5, m5⟩ := pix_some (xs := [[IB.i 1, IB.i 2], ([] : List IB), [IB.i 0, IB.i 2, IB.i 2], [IB.i 0, IB.i 301], [IB.i 0, IB.i 1, IB.b true]]) h4.1 h4.2
  refine Out.yes_get e5 (Out.yes_let ?_)
  refine Out.yes_bind (R := fun l => l.1 = [At.s z_InvalidNumber, At.s z_InvalidNumber, At.s z_InvalidPiece, At.s z_InvalidPiece, At.s z_NoPlace, At.s z_NoPlace]) ?_ fun l14 h14 => ?_
  · simp only [List.mem_cons, List.not_mem_nil, or_false] at m5
    rcases m5 with rfl | rfl | rfl | rfl | rfl <;> exact yes_dec (P := fun l => decide (l.1 = [At.s z_InvalidNumber, At.s z_InvalidNumber, At.s z_InvalidPiece, At.s z_InvalidPiece, At.s z_NoPlace, At.s z_NoPlace])) (by decide +kernel) fun a h => of_decide_eq_true h
  · refine Out.yes_guard (by rw [h14]; exact ⟨rfl, rfl⟩) (Out.yes_ifF rfl ?_)
    rw [trn43_eq, Out.bind_ok, org43_eq, Out.bind_ok]
    refine Out.yes_bind (next_yes (by decide) (by decide) _) fun r29 h29 => ?_
    obtain ⟨x30, e30, m30⟩ := pix_some (xs := [IB.i (2 : Int), IB.i ((0 : Int) - (1 : Int)), IB.b true]) h29.1 h29.2
    refine Out.yes_get e30 (Out.yes_let ?_)
    simp only [List.mem_cons, List.not_mem_nil, or_false] at m30
    refine Out.yes_bind (R := fun l => l.1 = [At.s z_InvalidNumber, At.s z_InvalidNumber, At.s z_InvalidNumber, At.s z_NoPlace, At.i 1] ∧ l.2 = o43) ?_ fun l37 ⟨h37, ho⟩ => ?_
    · rcases m30 with rfl | rfl | rfl <;> exact yes_dec (P := fun l => decide (l.1 = [At.s z_InvalidNumber, At.s z_InvalidNumber, At.s z_InvalidNumber, At.s z_NoPlace, At.i 1] ∧ l.2.all_rulers = [one43, trn43] ∧ l.2.size = 2 ∧ l.2.left = [((1 : Int), (1 : Int), false)] ∧ l.2.accepted = [(z_miss, (1 : Int), (4 : Int))])) (by decide +kernel) fun a h => by
        obtain ⟨h1, h2, h3, h4, h5⟩ := of_decide_eq_true h
        refine ⟨h1, ?_⟩
        obtain ⟨a1, ⟨a2, a3, a4, a5⟩⟩ := a
        dsimp only at h2 h3 h4 h5
        rw [h2, h3, h4, h5]
    · refine Out.yes_guard (by decide) (Out.yes_guard (by decide) (Out.yes_guard (by rw [h37]; exact ⟨rfl, rfl⟩) (Out.yes_ifF rfl ?_)))
      rw [ho]
      refine Out.yes_guard (by decide) ?_
      rw [num43a, Out.bind_ok, Out.bind_ok, num43b, Out.bind_ok, tel43, Out.bind_ok]
      refine Out.yes_guard ⟨rfl, rfl⟩ (Out.yes_ifF rfl ?_)
      rw [mk43, Out.bind_ok]
      refine Out.yes_get (a := ((0 : Int), (3 : Int), false)) rfl ?_
      rw [num43c, Out.bind_ok]
      refine Out.yes_bind see43 fun q hq => ?_
      rw [hq]
      exact Out.yes_guard ⟨rfl, rfl⟩ (Out.yes_ok rfl)
abbrev s_InvalidRuler_init : Stmt := inClass (topS 3) 0
theorem xtx_InvalidRuler : XiT2 s_InvalidRuler_init "InvalidRuler.__init__" "part" "index" := ⟨⟨_, _, _, _, _, _, _, _, _, _, _, _, _, _, _, _, rfl, fun _ _ _ => ⟨⟨fun _ => rfl, fun _ => ⟨_, rfl⟩, by decide +kernel, rfl, rfl⟩, ⟨fun _ => rfl, rfl, by decide, by decide⟩, ⟨fun _ => rfl, rfl, by decide, by decide⟩⟩⟩, ⟨_, rfl, rfl⟩, rfl, rfl, rfl, rfl, by decide, fun _ _ _ _ _ _ _ _ _ _ _ => .of_eq rfl⟩
abbrev s_InvalidPiece_init : Stmt := inClass (topS 5) 0
theorem xtx_InvalidPiece : XiT1 s_InvalidPiece_init "InvalidPiece.__init__" "index" := ⟨⟨_, _, _, _, _, _, _, _, _, _, _, _, rfl, fun _ _ _ => ⟨⟨fun _ => rfl, fun _ => ⟨_, rfl⟩, by decide +kernel, rfl, rfl⟩, ⟨fun _ => rfl, rfl, by decide, by decide⟩⟩⟩, ⟨_, rfl, rfl⟩, rfl, rfl, rfl, rfl, fun _ _ _ _ _ _ _ _ _ _ => .of_eq rfl⟩
local macro_rules | `(tactic| walk_at "vis") => `(tactic| first | exact .inl rfl | exact .inr (.inl rfl) | exact .inr (.inr rfl) | exact .inr rfl)
abbrev ns_Origin : List Str := ["all_rulers", "size", "left", "accepted"]
abbrev fl_Origin (C_Ruler : Addr) (s : S_Origin) : List Fld := [.sh ((eT (eRul C_Ruler)) s.all_rulers), .sh (eI s.size), .sh ((eL (eP3 eI eI eB)) s.left), .mu (List.map (eP3 eZ eI eI) s.accepted)]
structure Clo_Origin (K : PySem.W.Frag) (C : Addr) : Prop where
  cls : Cls K C
  n_all_rulers : NoAttr K C "all_rulers"
  n_size : NoAttr K C "size"
  n_left : NoAttr K C "left"
  n_accepted : NoAttr K C "accepted"
section
variable {P : Program} {w : World} {K : PySem.W.Frag} {mg : Str → Option Value} {base : Heap} {cx : Nat → Addr} {C_Ruler : Addr} {C_Rack : Addr} {C_Origin : Addr}
/-- _law_mix, as a plain function -/
theorem ok_law_mix {f : Addr} {fd : FuncData} (F : Fun K "_law_mix" "_law_mix" s_law_mix f fd) (B : Bn mg) : FnOk P w K mg base (L2.CX P w) 3 f fd ["_law_script", "_law_seed"] (spD K (FMix m_law_mix)) := by
  refine def_ok F sc_law_mix (fun ds G post px h => ?_) (fun cdv A outer s H E F0 T hr ds G post px h tk hp => ?_)
  · obtain ⟨_, _, _, rfl, _⟩ := h; rfl
  obtain ⟨ns, seed, hlen, rfl, hq⟩ := h
  have nd := sc_law_mix.nd
  refine wb_env [.sh (.scr ns), .sh (.int seed), .no, .no] rfl ?_
  refine wb_cons (ws_set 2 nd rfl (.inl rfl) ?_)
  refine we_var 1 rfl (by walk_at "vis") rfl ?_
  refine ⟨lt_ rfl, _, rfl, ?_⟩
  refine wb_cons (ws_for (is := [3]) hp rfl ?_)
  refine wi_scr ?_
  refine we_var 0 rfl (by walk_at "vis") rfl ?_
  refine ⟨ns, _, rfl, fun k r G' => G' = G ∧ ∃ z, r = [.sh (.scr ns), .sh (.int seed), .sh (.int ((ns.take k).foldl (fun s n => (s * 48271 + n % 2147483629 + 1) % 2147483647) seed)), z], ⟨rfl, .no, rfl⟩, fun k d r3 G3 hk ⟨h1, z, h2⟩ => ?_, fun r3 G3 ⟨h1, z, h2⟩ => ?_⟩
  · subst h1 h2
    obtain ⟨n, hn, rfl⟩ := map_at hk
    refine wg_name 3 nd rfl (.inl rfl) (by decide) (lt_ rfl) ?_
    refine wb_cons (ws_set 2 nd rfl (.inl rfl) ?_)
    refine we_bin ?_
    refine we_t1 (x := "int") (id := "int") rfl B.int bt_int ?_
    refine we_bin ?_
    refine we_bin ?_
    refine we_bin ?_
    refine we_var 2 rfl (by walk_at "vis") rfl ?_
    refine we_int ?_
    refine ⟨_, _, .inl rfl, .inl rfl, ?_⟩
    refine opw_mul (.inr ⟨by decide, by decide⟩) ?_
    refine we_bin ?_
    refine we_t1 (x := "int") (id := "int") rfl B.int bt_int ?_
    refine we_var 3 rfl (by walk_at "vis") rfl ?_
    refine ⟨_, .inl rfl, ?_⟩
    refine c_int ?_
    refine we_int ?_
    refine ⟨_, _, .inl rfl, .inl rfl, ?_⟩
    refine opw_mod (by decide) ?_
    refine ⟨_, _, .inl rfl, .inl rfl, ?_⟩
    refine opw_add ?_
    refine we_int ?_
    refine ⟨_, _, .inl rfl, .inl rfl, ?_⟩
    refine opw_add ?_
    refine ⟨_, .inl rfl, ?_⟩
    refine c_int ?_
    refine we_int ?_
    refine ⟨_, _, .inl rfl, .inl rfl, ?_⟩
    refine opw_mod (by decide) ?_
    refine ⟨lt_ rfl, _, rfl, ?_⟩
    refine wb_nil ⟨rfl, .sh (.int n), ?_⟩
    rw [List.take_add_one, hn]
    show _ = [_, _, Sl.sh (.int (List.foldl _ _ (ns.take k ++ [n]))), _]
    rw [List.foldl_append]
    rfl
  · subst h1 h2
    rw [List.length_map, List.take_length]
    refine wb_cons (ws_ret ?_)
    refine we_open ?_
    refine we_lst ?_
    refine wa_cons ?_
    refine we_var 2 rfl (by walk_at "vis") rfl ?_
    refine ⟨_, _, rfl, ?_⟩
    refine wa_cons ?_
    refine we_open ?_
    refine we_t1 (x := "list") (id := "list") rfl B.list bt_list ?_
    refine we_var 0 rfl (by walk_at "vis") rfl ?_
    refine ⟨_, .inl rfl, ?_⟩
    refine c_listR ?_
    refine ⟨_, rfl, fun g hg => ?_⟩
    refine ⟨_, _, rfl, ?_⟩
    refine wa_cons ?_
    refine we_int ?_
    refine ⟨_, _, rfl, ?_⟩
    refine wa_nil ?_
    refine ⟨lt_ rfl, ?_⟩
    refine ⟨_, rfl, fun b hb => ?_⟩
    have hne : g ≠ b := fun z => by subst z; rw [updG_same] at hb; cases hb
    exact ⟨_, rfl, hq b g hne (by rwa [updG_ne (Ne.symm hne)] at hb) hg⟩
/-- _law_next, as a plain function -/
theorem ok_law_next {f : Addr} {fd : FuncData} (F : Fun K "_law_next" "_law_next" s_law_next f fd) (B : Bn mg) : FnOk P w K mg base (L2.CX P w) 3 f fd ["_law_h", "_law_limit"] (spD K (FBh (A := Int) (R := Int) (fun a => [eI a]) (fun v => .sh (eI v)) (fun a => m_law_next a))) := by
  refine def_ok F sc_law_next (fun ds G post px h => ?_) (fun cdv A outer s H E F0 T hr ds G post px h tk hp => ?_)
  · obtain ⟨_, _, _, _, _, _, rfl, _⟩ := h; rfl
  obtain ⟨m, G0, b, g, ⟨⟨ns, st, ix⟩, hlen⟩, hne, rfl, rfl, h⟩ := h
  unfold m_law_next at h
  dsimp only at h hlen
  obtain ⟨⟨hm0, hm1⟩, h⟩ := Out.gd h
  obtain ⟨cell, hcell, h⟩ := Out.gt h
  have nd := sc_law_next.nd
  refine wb_env [.sh (.adr b), .sh (.int m), .no] rfl ?_
  refine wb_cons (ws_set 2 nd rfl (.inl rfl) ?_)
  refine we_ix (fun _ _ => rfl) ?_
  refine we_bin ?_
  refine we_ix (fun _ _ => rfl) ?_
  refine we_var 0 rfl (by walk_at "vis") rfl ?_
  refine we_int ?_
  refine ⟨_, _, .inr ⟨b, rfl, bxH_b⟩, .inl rfl, ?_⟩
  refine ixw_lst (d := .adr g) rfl ?_
  refine we_lst ?_
  refine wa_cons ?_
  refine we_int ?_
  refine ⟨_, _, rfl, ?_⟩
  refine wa_nil ?_
  refine ⟨lt_ rfl, ?_⟩
  refine ⟨_, _, .inr ⟨g, rfl, bxH_g hne⟩, .inl rfl, ?_⟩
  refine t_cat (f := eI) ns [(0 : Int)] (by show _ ≤ 16777216; simp; omega) ?_
  refine we_bin ?_
  refine we_t1 (x := "int") (id := "int") rfl B.int bt_int ?_
  refine we_ix (fun _ _ => rfl) ?_
  refine we_var 0 rfl (by walk_at "vis") rfl ?_
  refine we_int ?_
  refine ⟨_, _, .inr ⟨b, rfl, bxH_b⟩, .inl rfl, ?_⟩
  refine ixw_lst (d := .int ix) rfl ?_
  refine ⟨_, .inl rfl, ?_⟩
  refine c_int ?_
  refine we_b2 (x := "max") (id := "max") rfl B.max bt_max ?_
  refine we_int ?_
  refine we_b1 (x := "len") (id := "len") rfl B.len bt_len ?_
  refine we_ix (fun _ _ => rfl) ?_
  refine we_var 0 rfl (by walk_at "vis") rfl ?_
  refine we_int ?_
  refine ⟨_, _, .inr ⟨b, rfl, bxH_b⟩, .inl rfl, ?_⟩
  refine ixw_lst (d := .adr g) rfl ?_
  refine ⟨_, .inr ⟨g, rfl, bxH_g hne⟩, ?_⟩
  refine t_len (f := eI) ns ?_
  refine ⟨_, _, .inl rfl, .inl rfl, ?_⟩
  refine c_max2 rfl ?_
  refine ⟨_, _, .inl rfl, .inl rfl, ?_⟩
  refine opw_mod (by split <;> omega) ?_
  refine ⟨_, _, .inl rfl, .inl rfl, ?_⟩
  refine t_ix (f := eI) (xs := ns ++ [0]) (x := cell) hcell ?_
  refine ⟨lt_ rfl, _, rfl, ?_⟩
  refine wb_env [.sh (.adr b), .sh (.int m), .sh (.int cell)] rfl ?_
  refine wb_cons (ws_if ?_)
  refine wt_cmp (nomark _) ?_
  refine we_var 2 rfl (by walk_at "vis") rfl ?_
  refine we_bin ?_
  refine we_int ?_
  refine we_int ?_
  refine ⟨_, _, .inl rfl, .inl rfl, ?_⟩
  refine opw_pow (⟨by decide, by decide, by decide⟩) ?_
  refine ⟨_, _, .inl rfl, .inl rfl, ?_⟩
  refine opw_ge ?_
  refine ⟨_, rfl, fun hd => ?_, fun hd => ?_⟩
  · have hc : 1000000000000000000 ≤ cell := by
      have := of_decide_eq_true hd
      exact this
    rw [if_pos hc] at h
    obtain ⟨j, hj, h⟩ := Out.gt h
    obtain ⟨hpos, h⟩ := Out.gd h
    refine wb_cons (ws_setG ?_)
    refine we_bin ?_
    refine we_var 2 rfl (by walk_at "vis") rfl ?_
    refine we_var 1 rfl (by walk_at "vis") rfl ?_
    refine ⟨_, _, .inl rfl, .inl rfl, ?_⟩
    refine opw_fdivE ⟨hm0, hm1⟩ ?_
    refine ⟨_, _, rfl, ?_⟩
    refine we_ix (fun _ _ => rfl) ?_
    refine we_var 0 rfl (by walk_at "vis") rfl ?_
    refine we_int ?_
    refine ⟨_, _, .inr ⟨b, rfl, bxH_b⟩, .inl rfl, ?_⟩
    refine ixw_lst (d := .adr g) rfl ?_
    refine ⟨g, rfl, ?_⟩
    refine we_bin ?_
    refine we_t1 (x := "int") (id := "int") rfl B.int bt_int ?_
    refine we_ix (fun _ _ => rfl) ?_
    refine we_var 0 rfl (by walk_at "vis") rfl ?_
    refine we_int ?_
    refine ⟨_, _, .inr ⟨b, rfl, bxH_b⟩, .inl rfl, ?_⟩
    refine ixw_lst (d := .int ix) rfl ?_
    refine ⟨_, .inl rfl, ?_⟩
    refine c_int ?_
    refine we_b1 (x := "len") (id := "len") rfl B.len bt_len ?_
    refine we_ix (fun _ _ => rfl) ?_
    refine we_var 0 rfl (by walk_at "vis") rfl ?_
    refine we_int ?_
    refine ⟨_, _, .inr ⟨b, rfl, bxH_b⟩, .inl rfl, ?_⟩
    refine ixw_lst (d := .adr g) rfl ?_
    refine ⟨_, .inr ⟨g, rfl, bxH_g hne⟩, ?_⟩
    refine t_len (f := eI) ns ?_
    refine ⟨_, _, .inl rfl, .inl rfl, ?_⟩
    refine opw_mod hpos ?_
    refine ⟨ix % ((ns.length : Nat) : Int), _, j, rfl, bxH_g hne, (by rw [List.length_map]; exact hj), ?_⟩
    dsimp only
    rw [show (ns.map D.int).set j (D.int (cell / m)) = (ns.set j (cell / m)).map D.int from by rw [List.map_set], bxH_setG (by rw [List.length_set]; exact hlen) hne]
    refine wb_cons (ws_ret ?_)
    refine we_bin ?_
    refine we_t1 (x := "int") (id := "int") rfl B.int bt_int ?_
    refine we_var 2 rfl (by walk_at "vis") rfl ?_
    refine ⟨_, .inl rfl, ?_⟩
    refine c_int ?_
    refine we_var 1 rfl (by walk_at "vis") rfl ?_
    refine ⟨_, _, .inl rfl, .inl rfl, ?_⟩
    refine opw_mod hm0 ?_
    exact ⟨_, rfl, h⟩
  · have hc : ¬ 1000000000000000000 ≤ cell := by
      have := of_decide_eq_false hd
      exact this
    rw [if_neg hc] at h
    refine wb_nil ?_
    refine wb_cons (ws_setG ?_)
    refine we_bin ?_
    refine we_t1 (x := "int") (id := "int") rfl B.int bt_int ?_
    refine we_bin ?_
    refine we_bin ?_
    refine we_bin ?_
    refine we_ix (fun _ _ => rfl) ?_
    refine we_var 0 rfl (by walk_at "vis") rfl ?_
    refine we_int ?_
    refine ⟨_, _, .inr ⟨b, rfl, bxH_b⟩, .inl rfl, ?_⟩
    refine ixw_lst (d := .int st) rfl ?_
    refine we_int ?_
    refine ⟨_, _, .inl rfl, .inl rfl, ?_⟩
    refine opw_mul (.inr ⟨by decide, by decide⟩) ?_
    refine we_bin ?_
    refine we_var 2 rfl (by walk_at "vis") rfl ?_
    refine we_int ?_
    refine ⟨_, _, .inl rfl, .inl rfl, ?_⟩
    refine opw_mul (.inr ⟨by decide, by decide⟩) ?_
    refine ⟨_, _, .inl rfl, .inl rfl, ?_⟩
    refine opw_add ?_
    refine we_int ?_
    refine ⟨_, _, .inl rfl, .inl rfl, ?_⟩
    refine opw_add ?_
    refine ⟨_, .inl rfl, ?_⟩
    refine c_int ?_
    refine we_int ?_
    refine ⟨_, _, .inl rfl, .inl rfl, ?_⟩
    refine opw_mod (by decide) ?_
    refine ⟨_, _, rfl, ?_⟩
    refine we_var 0 rfl (by walk_at "vis") rfl ?_
    refine ⟨b, rfl, ?_⟩
    refine we_int ?_
    refine ⟨0, _, 0, rfl, bxH_b, rfl, ?_⟩
    dsimp only
    rw [show ([D.int st, D.adr g, D.int ix].set 0 (D.int ((st * 48271 + cell * 69621 + 11) % 2147483647))) = [D.int ((st * 48271 + cell * 69621 + 11) % 2147483647), D.adr g, D.int ix] from rfl, bxH_setB]
    refine wb_cons (ws_setG ?_)
    refine we_bin ?_
    refine we_ix (fun _ _ => rfl) ?_
    refine we_var 0 rfl (by walk_at "vis") rfl ?_
    refine we_int ?_
    refine ⟨_, _, .inr ⟨b, rfl, bxH_b⟩, .inl rfl, ?_⟩
    refine ixw_lst (d := .int ix) rfl ?_
    refine we_int ?_
    refine ⟨_, _, .inl rfl, .inl rfl, ?_⟩
    refine opw_add ?_
    refine ⟨_, _, rfl, ?_⟩
    refine we_var 0 rfl (by walk_at "vis") rfl ?_
    refine ⟨b, rfl, ?_⟩
    refine we_int ?_
    refine ⟨2, _, 2, rfl, bxH_b, rfl, ?_⟩
    dsimp only
    rw [show ([D.int ((st * 48271 + cell * 69621 + 11) % 2147483647), D.adr g, D.int ix].set 2 (D.int (ix + 1))) = [D.int ((st * 48271 + cell * 69621 + 11) % 2147483647), D.adr g, D.int (ix + 1)] from rfl, bxH_setB]
    refine wb_cons (ws_ret ?_)
    refine we_bin ?_
    refine we_t1 (x := "int") (id := "int") rfl B.int bt_int ?_
    refine we_bin ?_
    refine we_ix (fun _ _ => rfl) ?_
    refine we_var 0 rfl (by walk_at "vis") rfl ?_
    refine we_int ?_
    refine ⟨_, _, .inr ⟨b, rfl, bxH_b⟩, .inl rfl, ?_⟩
    refine ixw_lst (d := .int ((st * 48271 + cell * 69621 + 11) % 2147483647)) rfl ?_
    refine we_int ?_
    refine ⟨_, _, .inl rfl, .inl rfl, ?_⟩
    refine opw_fdiv ⟨by decide, by decide⟩ ?_
    refine ⟨_, .inl rfl, ?_⟩
    refine c_int ?_
    refine we_var 1 rfl (by walk_at "vis") rfl ?_
    refine ⟨_, _, .inl rfl, .inl rfl, ?_⟩
    refine opw_mod hm0 ?_
    exact ⟨_, rfl, h⟩
theorem ok_law_alike {f : Addr} {fd : FuncData} {k n : Nat} (F : Fun K "_law_alike" "_law_alike" s_law_alike f fd) (B : Bn mg) (c_law_alike : 0 < n → Cal P w K mg base "_law_alike" k ["_law_found", "_law_due"] (alikeF (n - 1))) : FnOk P w K mg base (L2.CX P w) (k + 1) f fd ["_law_found", "_law_due"] (spD K (alikeF n)) := by
  refine def_ok F sc_law_alike (fun ds G post px h => ?_) (fun cdv A outer s H E F0 T hr ds G post px h tk hp => ?_)
  · obtain ⟨d, rfl, _⟩ := h; rfl
  obtain ⟨d, rfl, hok, hq⟩ := h
  have nd := sc_law_alike.nd
  refine wb_env [.sh d, .sh d, .no] rfl ?_
  cases d with
  | non =>
    refine wb_cons (ws_if ?_)
    refine wt_val (fun _ => rfl) ?_
    refine we_isi rfl B.isinstance bt_isinstance rfl B.dict bt_dict ?_
    refine we_var 1 rfl (by walk_at "vis") rfl ?_
    refine ⟨_, _, _, .inl rfl, rfl, kt_NoneType_dict, ?_⟩
    refine ⟨_, rfl, fun hd => absurd (show false = true from hd) Bool.false_ne_true, fun _ => ?_⟩
    refine wb_nil ?_
    refine wb_cons (ws_if ?_)
    refine wt_val (fun _ => rfl) ?_
    refine we_isiT rfl B.isinstance bt_isinstance rfl B.tuple bt_tuple rfl B.list bt_list ?_
    refine we_var 1 rfl (by walk_at "vis") rfl ?_
    refine ⟨_, _, false, rfl, rfl, by unfold PySem.W.kitAny; rw [kt_NoneType_tuple]; unfold PySem.W.kitAny; rw [kt_NoneType_list]; rfl, ?_⟩
    refine ⟨_, rfl, fun hd => absurd (show false = true from hd) Bool.false_ne_true, fun _ => ?_⟩
    refine wb_nil ?_
    refine wb_cons (ws_if ?_)
    refine wt_w (ww_or ?_)
    refine wt_cmp (nomark _) ?_
    refine we_var 1 rfl (by walk_at "vis") rfl ?_
    refine we_non ?_
    refine ⟨_, _, .inl rfl, .inl rfl, ?_⟩
    refine opw_isN ?_
    refine ⟨_, rfl, fun hd => absurd (show true = false from hd) (by decide), fun _ => ?_⟩
    refine ⟨fun _ => ?_, fun hd => absurd (show true = false from hd) (by decide)⟩
    refine wb_cons (ws_ret ?_)
    refine we_and ?_
    refine we_cmp (nomark _) ?_
    refine we_var 0 rfl (by walk_at "vis") rfl ?_
    refine we_var 1 rfl (by walk_at "vis") rfl ?_
    refine ⟨_, _, .inl rfl, .inl rfl, ?_⟩
    refine opw_eqD (n := 0) hr.units trivial trivial (by decide) ?_
    refine ⟨_, rfl, fun _ => ?_, fun hc => absurd hc (by decide)⟩
    refine we_one ?_
    refine we_cmp (nomark _) ?_
    refine we_isi rfl B.isinstance bt_isinstance rfl B.str bt_str ?_
    refine we_var 0 rfl (by walk_at "vis") rfl ?_
    refine ⟨_, _, _, .inl rfl, rfl, kt_NoneType_str, ?_⟩
    refine we_isi rfl B.isinstance bt_isinstance rfl B.str bt_str ?_
    refine we_var 1 rfl (by walk_at "vis") rfl ?_
    refine ⟨_, _, _, .inl rfl, rfl, kt_NoneType_str, ?_⟩
    refine ⟨_, _, .inl rfl, .inl rfl, ?_⟩
    refine opw_eqB ?_
    exact ⟨_, rfl, hq⟩
  | bl b =>
    refine wb_cons (ws_if ?_)
    refine wt_val (fun _ => rfl) ?_
    refine we_isi rfl B.isinstance bt_isinstance rfl B.dict bt_dict ?_
    refine we_var 1 rfl (by walk_at "vis") rfl ?_
    refine ⟨_, _, _, .inl rfl, rfl, kt_bool_dict, ?_⟩
    refine ⟨_, rfl, fun hd => absurd (show false = true from hd) Bool.false_ne_true, fun _ => ?_⟩
    refine wb_nil ?_
    refine wb_cons (ws_if ?_)
    refine wt_val (fun _ => rfl) ?_
    refine we_isiT rfl B.isinstance bt_isinstance rfl B.tuple bt_tuple rfl B.list bt_list ?_
    refine we_var 1 rfl (by walk_at "vis") rfl ?_
    refine ⟨_, _, false, rfl, rfl, by unfold PySem.W.kitAny; rw [kt_bool_tuple]; unfold PySem.W.kitAny; rw [kt_bool_list]; rfl, ?_⟩
    refine ⟨_, rfl, fun hd => absurd (show false = true from hd) Bool.false_ne_true, fun _ => ?_⟩
    refine wb_nil ?_
    refine wb_cons (ws_if ?_)
    refine wt_w (ww_or ?_)
    refine wt_cmp (nomark _) ?_
    refine we_var 1 rfl (by walk_at "vis") rfl ?_
    refine we_non ?_
    refine ⟨_, _, .inl rfl, .inl rfl, ?_⟩
    refine opw_isN ?_
    refine ⟨_, rfl, fun _ => ?_, fun hd => absurd (show false = true from hd) Bool.false_ne_true⟩
    refine ww_or1 ?_
    refine wt_val (fun _ => rfl) ?_
    refine we_isi rfl B.isinstance bt_isinstance rfl B.str bt_str ?_
    refine we_var 1 rfl (by walk_at "vis") rfl ?_
    refine ⟨_, _, _, .inl rfl, rfl, kt_bool_str, ?_⟩
    refine ⟨_, rfl, fun hd => absurd (show false = true from hd) Bool.false_ne_true, fun _ => ?_⟩
    refine wb_nil ?_
    refine wb_cons (ws_ret ?_)
    refine we_and ?_
    refine we_isi rfl B.isinstance bt_isinstance rfl B.int bt_int ?_
    refine we_var 0 rfl (by walk_at "vis") rfl ?_
    refine ⟨_, _, _, .inl rfl, rfl, kt_bool_int, ?_⟩
    refine ⟨_, rfl, fun _ => ?_, fun hc => absurd hc (by decide)⟩
    refine we_and ?_
    refine we_cmp (nomark _) ?_
    refine we_isi rfl B.isinstance bt_isinstance rfl B.bool bt_bool ?_
    refine we_var 0 rfl (by walk_at "vis") rfl ?_
    refine ⟨_, _, _, .inl rfl, rfl, kt_bool_bool, ?_⟩
    refine we_isi rfl B.isinstance bt_isinstance rfl B.bool bt_bool ?_
    refine we_var 1 rfl (by walk_at "vis") rfl ?_
    refine ⟨_, _, _, .inl rfl, rfl, kt_bool_bool, ?_⟩
    refine ⟨_, _, .inl rfl, .inl rfl, ?_⟩
    refine opw_eqB ?_
    refine ⟨_, rfl, fun _ => ?_, fun hc => absurd hc (by decide)⟩
    refine we_one ?_
    refine we_cmp (nomark _) ?_
    refine we_var 0 rfl (by walk_at "vis") rfl ?_
    refine we_var 1 rfl (by walk_at "vis") rfl ?_
    refine ⟨_, _, .inl rfl, .inl rfl, ?_⟩
    refine opw_eqB ?_
    refine ⟨_, rfl, ?_⟩
    rw [beq_self_eq_true]
    exact hq
  | int i =>
    refine wb_cons (ws_if ?_)
    refine wt_val (fun _ => rfl) ?_
    refine we_isi rfl B.isinstance bt_isinstance rfl B.dict bt_dict ?_
    refine we_var 1 rfl (by walk_at "vis") rfl ?_
    refine ⟨_, _, _, .inl rfl, rfl, kt_int_dict, ?_⟩
    refine ⟨_, rfl, fun hd => absurd (show false = true from hd) Bool.false_ne_true, fun _ => ?_⟩
    refine wb_nil ?_
    refine wb_cons (ws_if ?_)
    refine wt_val (fun _ => rfl) ?_
    refine we_isiT rfl B.isinstance bt_isinstance rfl B.tuple bt_tuple rfl B.list bt_list ?_
    refine we_var 1 rfl (by walk_at "vis") rfl ?_
    refine ⟨_, _, false, rfl, rfl, by unfold PySem.W.kitAny; rw [kt_int_tuple]; unfold PySem.W.kitAny; rw [kt_int_list]; rfl, ?_⟩
    refine ⟨_, rfl, fun hd => absurd (show false = true from hd) Bool.false_ne_true, fun _ => ?_⟩
    refine wb_nil ?_
    refine wb_cons (ws_if ?_)
    refine wt_w (ww_or ?_)
    refine wt_cmp (nomark _) ?_
    refine we_var 1 rfl (by walk_at "vis") rfl ?_
    refine we_non ?_
    refine ⟨_, _, .inl rfl, .inl rfl, ?_⟩
    refine opw_isN ?_
    refine ⟨_, rfl, fun _ => ?_, fun hd => absurd (show false = true from hd) Bool.false_ne_true⟩
    refine ww_or1 ?_
    refine wt_val (fun _ => rfl) ?_
    refine we_isi rfl B.isinstance bt_isinstance rfl B.str bt_str ?_
    refine we_var 1 rfl (by walk_at "vis") rfl ?_
    refine ⟨_, _, _, .inl rfl, rfl, kt_int_str, ?_⟩
    refine ⟨_, rfl, fun hd => absurd (show false = true from hd) Bool.false_ne_true, fun _ => ?_⟩
    refine wb_nil ?_
    refine wb_cons (ws_ret ?_)
    refine we_and ?_
    refine we_isi rfl B.isinstance bt_isinstance rfl B.int bt_int ?_
    refine we_var 0 rfl (by walk_at "vis") rfl ?_
    refine ⟨_, _, _, .inl rfl, rfl, kt_int_int, ?_⟩
    refine ⟨_, rfl, fun _ => ?_, fun hc => absurd hc (by decide)⟩
    refine we_and ?_
    refine we_cmp (nomark _) ?_
    refine we_isi rfl B.isinstance bt_isinstance rfl B.bool bt_bool ?_
    refine we_var 0 rfl (by walk_at "vis") rfl ?_
    refine ⟨_, _, _, .inl rfl, rfl, kt_int_bool, ?_⟩
    refine we_isi rfl B.isinstance bt_isinstance rfl B.bool bt_bool ?_
    refine we_var 1 rfl (by walk_at "vis") rfl ?_
    refine ⟨_, _, _, .inl rfl, rfl, kt_int_bool, ?_⟩
    refine ⟨_, _, .inl rfl, .inl rfl, ?_⟩
    refine opw_eqB ?_
    refine ⟨_, rfl, fun _ => ?_, fun hc => absurd hc (by decide)⟩
    refine we_one ?_
    refine we_cmp (nomark _) ?_
    refine we_var 0 rfl (by walk_at "vis") rfl ?_
    refine we_var 1 rfl (by walk_at "vis") rfl ?_
    refine ⟨_, _, .inl rfl, .inl rfl, ?_⟩
    refine opw_eqI ?_
    refine ⟨_, rfl, ?_⟩
    rw [decide_eq_true rfl]
    exact hq
  | str x =>
    refine wb_cons (ws_if ?_)
    refine wt_val (fun _ => rfl) ?_
    refine we_isi rfl B.isinstance bt_isinstance rfl B.dict bt_dict ?_
    refine we_var 1 rfl (by walk_at "vis") rfl ?_
    refine ⟨_, _, _, .inl rfl, rfl, kt_str_dict, ?_⟩
    refine ⟨_, rfl, fun hd => absurd (show false = true from hd) Bool.false_ne_true, fun _ => ?_⟩
    refine wb_nil ?_
    refine wb_cons (ws_if ?_)
    refine wt_val (fun _ => rfl) ?_
    refine we_isiT rfl B.isinstance bt_isinstance rfl B.tuple bt_tuple rfl B.list bt_list ?_
    refine we_var 1 rfl (by walk_at "vis") rfl ?_
    refine ⟨_, _, false, rfl, rfl, by unfold PySem.W.kitAny; rw [kt_str_tuple]; unfold PySem.W.kitAny; rw [kt_str_list]; rfl, ?_⟩
    refine ⟨_, rfl, fun hd => absurd (show false = true from hd) Bool.false_ne_true, fun _ => ?_⟩
    refine wb_nil ?_
    refine wb_cons (ws_if ?_)
    refine wt_w (ww_or ?_)
    refine wt_cmp (nomark _) ?_
    refine we_var 1 rfl (by walk_at "vis") rfl ?_
    refine we_non ?_
    refine ⟨_, _, .inl rfl, .inl rfl, ?_⟩
    refine opw_isN ?_
    refine ⟨_, rfl, fun _ => ?_, fun hd => absurd (show false = true from hd) Bool.false_ne_true⟩
    refine ww_or1 ?_
    refine wt_val (fun _ => rfl) ?_
    refine we_isi rfl B.isinstance bt_isinstance rfl B.str bt_str ?_
    refine we_var 1 rfl (by walk_at "vis") rfl ?_
    refine ⟨_, _, _, .inl rfl, rfl, kt_str_str, ?_⟩
    refine ⟨_, rfl, fun _ => ?_, fun hd => absurd (show true = false from hd) (by decide)⟩
    refine wb_cons (ws_ret ?_)
    refine we_and ?_
    refine we_cmp (nomark _) ?_
    refine we_var 0 rfl (by walk_at "vis") rfl ?_
    refine we_var 1 rfl (by walk_at "vis") rfl ?_
    refine ⟨_, _, .inl rfl, .inl rfl, ?_⟩
    refine opw_eqS ?_
    refine ⟨_, rfl, ?_, ?_⟩
    rotate_left
    · intro hc; rw [decide_eq_true rfl] at hc; exact absurd hc (by decide)
    intro _
    refine we_one ?_
    refine we_cmp (nomark _) ?_
    refine we_isi rfl B.isinstance bt_isinstance rfl B.str bt_str ?_
    refine we_var 0 rfl (by walk_at "vis") rfl ?_
    refine ⟨_, _, _, .inl rfl, rfl, kt_str_str, ?_⟩
    refine we_isi rfl B.isinstance bt_isinstance rfl B.str bt_str ?_
    refine we_var 1 rfl (by walk_at "vis") rfl ?_
    refine ⟨_, _, _, .inl rfl, rfl, kt_str_str, ?_⟩
    refine ⟨_, _, .inl rfl, .inl rfl, ?_⟩
    refine opw_eqB ?_
    exact ⟨_, rfl, hq⟩
  | tup ds =>
    cases n with
    | zero => exact absurd (show false = true from hok) Bool.false_ne_true
    | succ n =>
    replace c_law_alike := c_law_alike (Nat.succ_pos n)
    replace hok : ds.length ≤ LIM ∧ ∀ d ∈ ds, alB n d = true := by have h2 : (decide (ds.length ≤ LIM) && ds.all (alB n)) = true := hok; rw [Bool.and_eq_true, decide_eq_true_eq, List.all_eq_true] at h2; exact h2
    have hlim : ds.length ≤ LIM := hok.1
    have hlim2 : (ds.length : Int) ≤ 16777216 := by have := hlim; unfold LIM at this; omega
    refine wb_cons (ws_if ?_)
    refine wt_val (fun _ => rfl) ?_
    refine we_isi rfl B.isinstance bt_isinstance rfl B.dict bt_dict ?_
    refine we_var 1 rfl (by walk_at "vis") rfl ?_
    refine ⟨_, _, _, .inl rfl, rfl, kt_tuple_dict, ?_⟩
    refine ⟨_, rfl, fun hd => absurd (show false = true from hd) Bool.false_ne_true, fun _ => ?_⟩
    refine wb_nil ?_
    refine wb_cons (ws_if ?_)
    refine wt_val (fun _ => rfl) ?_
    refine we_isiT rfl B.isinstance bt_isinstance rfl B.tuple bt_tuple rfl B.list bt_list ?_
    refine we_var 1 rfl (by walk_at "vis") rfl ?_
    refine ⟨_, _, true, rfl, rfl, by unfold PySem.W.kitAny; rw [kt_tuple_tuple], ?_⟩
    refine ⟨_, rfl, fun _ => ?_, fun hd => absurd (show true = false from hd) (by decide)⟩
    refine wb_cons (ws_if ?_)
    refine wt_w (ww_or ?_)
    refine wt_not ?_
    refine wt_val (fun _ => rfl) ?_
    refine we_isiT rfl B.isinstance bt_isinstance rfl B.tuple bt_tuple rfl B.list bt_list ?_
    refine we_var 0 rfl (by walk_at "vis") rfl ?_
    refine ⟨_, _, true, rfl, rfl, by unfold PySem.W.kitAny; rw [kt_tuple_tuple], ?_⟩
    refine ⟨_, rfl, ?_⟩
    refine ⟨fun _ => ?_, fun hd => absurd (show false = true from hd) Bool.false_ne_true⟩
    refine ww_or1 ?_
    refine wt_cmp (nomark _) ?_
    refine we_isi rfl B.isinstance bt_isinstance rfl B.list bt_list ?_
    refine we_var 0 rfl (by walk_at "vis") rfl ?_
    refine ⟨_, _, _, .inl rfl, rfl, kt_tuple_list, ?_⟩
    refine we_isi rfl B.isinstance bt_isinstance rfl B.list bt_list ?_
    refine we_var 1 rfl (by walk_at "vis") rfl ?_
    refine ⟨_, _, _, .inl rfl, rfl, kt_tuple_list, ?_⟩
    refine ⟨_, _, .inl rfl, .inl rfl, ?_⟩
    refine opw_neB ?_
    refine ⟨_, rfl, fun hd => absurd (show false = true from hd) Bool.false_ne_true, fun _ => ?_⟩
    refine wb_nil ?_
    refine wb_cons (ws_if ?_)
    refine wt_cmp (nomark _) ?_
    refine we_b1 (x := "len") (id := "len") rfl B.len bt_len ?_
    refine we_var 0 rfl (by walk_at "vis") rfl ?_
    refine ⟨_, .inl rfl, ?_⟩
    refine c_lenT ?_
    refine we_b1 (x := "len") (id := "len") rfl B.len bt_len ?_
    refine we_var 1 rfl (by walk_at "vis") rfl ?_
    refine ⟨_, .inl rfl, ?_⟩
    refine c_lenT ?_
    refine ⟨_, _, .inl rfl, .inl rfl, ?_⟩
    refine opw_neI ?_
    refine ⟨_, rfl, fun hd => absurd hd (by simp), fun _ => ?_⟩
    refine wb_nil ?_
    refine wb_cons (ws_ret ?_)
    refine we_cmp (nomark _) ?_
    refine we_lcQ [("_law_k", 2)] rfl nd (blkOk_by (by rfl)) (lcS_preP (γ := List Int) (σT := Unit) [("_law_k", 2)] [.sh (.tup ds), .sh (.tup ds), .no] (fun _ => G) (en := eI) eI ?_)
    refine wi_rng1 rfl B.range ?_
    refine we_b1 (x := "len") (id := "len") rfl B.len bt_len ?_
    refine we_var 1 rfl (by walk_at "vis") rfl ?_
    refine ⟨_, .inl rfl, ?_⟩
    refine c_lenT ?_
    refine ⟨_, rfl, ⟨by omega, by omega⟩, ?_⟩
    refine ⟨rgI 0 (ds.length : Int), (), fun _ x => if 0 ≤ x ∧ x < (ds.length : Int) then .ok (none, ()) else .no, fun q => .ok q.1, fun l => l = [], fun _ => False, rfl, by rw [rgI_length]; have := hlim; omega, Wk.refl _, rfl, ?_, fun s x Q' h => ?_, fun q h => ?_⟩
    · have e : Out.compS (fun (_ : Unit) (x : Int) => if 0 ≤ x ∧ x < (ds.length : Int) then (.ok (none, ()) : Out (Option Int × Unit)) else .no) (rgI 0 (ds.length : Int)) [] () = .ok ([], ()) := compS_none _ _ fun x hx => by rw [mem_rgI] at hx; exact if_pos hx
      rw [e]
      exact rfl
    · by_cases hx : 0 ≤ x ∧ x < (ds.length : Int)
      · dsimp only at h
        rw [if_pos hx] at h
        obtain ⟨j, rfl⟩ := Int.eq_ofNat_of_zero_le hx.1
        have hj2 : j < ds.length := by omega
        have hjd : ds[j]? = some ds[j] := List.getElem?_eq_getElem hj2
        rintro Y ⟨s1, H1, C1, cl, fp, rfl⟩
        refine wg_name 2 nd rfl (by walk_at "vis") (by decide) (lt_ rfl) ?_
        rintro Y ⟨s1, H1, C1, cl, fp, rfl⟩
        refine wt_not ?_
        refine wt_val (fun _ => rfl) ?_
        refine we_cal (BlkX.tk ⟨_, _, _, _, _, rfl⟩) c_law_alike hr rfl ?_
        refine wa_cons ?_
        refine we_ix (fun _ _ => rfl) ?_
        refine we_var 0 rfl (by walk_at "vis") rfl ?_
        refine we_var 2 rfl (by walk_at "vis") rfl ?_
        refine ⟨_, _, .inl rfl, .inl rfl, ?_⟩
        refine ixw_tup (atD_nat hjd) ?_
        refine ⟨_, _, rfl, ?_⟩
        refine wa_cons ?_
        refine we_ix (fun _ _ => rfl) ?_
        refine we_var 1 rfl (by walk_at "vis") rfl ?_
        refine we_var 2 rfl (by walk_at "vis") rfl ?_
        refine ⟨_, _, .inl rfl, .inl rfl, ?_⟩
        refine ixw_tup (atD_nat hjd) ?_
        refine ⟨_, _, rfl, ?_⟩
        refine wa_nil ?_
        refine ⟨ds[j], rfl, hok.2 _ (List.getElem_mem hj2), ?_⟩
        refine ⟨_, rfl, ?_⟩
        exact ⟨fun hd => absurd (show false = true from hd) Bool.false_ne_true, fun _ => ⟨(), Wk.refl _, rfl, h⟩⟩
      · dsimp only at h; rw [if_neg hx] at h; exact h.elim
    · have hq1 : q.1 = [] := h
      rw [hq1]
      refine we_lst ?_
      refine wa_nil ?_
      refine ⟨by decide, ?_⟩
      refine ⟨_, _, .inl rfl, .inl rfl, ?_⟩
      refine opw_eqC (eqc_lst eqc_int) hr.units ([] : List Int) [] ?_
      exact ⟨_, rfl, hq⟩
  | lst ds =>
    cases n with
    | zero => exact absurd (show false = true from hok) Bool.false_ne_true
    | succ n =>
    replace c_law_alike := c_law_alike (Nat.succ_pos n)
    replace hok : ds.length ≤ LIM ∧ ∀ d ∈ ds, alB n d = true := by have h2 : (decide (ds.length ≤ LIM) && ds.all (alB n)) = true := hok; rw [Bool.and_eq_true, decide_eq_true_eq, List.all_eq_true] at h2; exact h2
    have hlim : ds.length ≤ LIM := hok.1
    have hlim2 : (ds.length : Int) ≤ 16777216 := by have := hlim; unfold LIM at this; omega
    refine wb_cons (ws_if ?_)
    refine wt_val (fun _ => rfl) ?_
    refine we_isi rfl B.isinstance bt_isinstance rfl B.dict bt_dict ?_
    refine we_var 1 rfl (by walk_at "vis") rfl ?_
    refine ⟨_, _, _, .inl rfl, rfl, kt_list_dict, ?_⟩
    refine ⟨_, rfl, fun hd => absurd (show false = true from hd) Bool.false_ne_true, fun _ => ?_⟩
    refine wb_nil ?_
    refine wb_cons (ws_if ?_)
    refine wt_val (fun _ => rfl) ?_
    refine we_isiT rfl B.isinstance bt_isinstance rfl B.tuple bt_tuple rfl B.list bt_list ?_
    refine we_var 1 rfl (by walk_at "vis") rfl ?_
    refine ⟨_, _, true, rfl, rfl, by unfold PySem.W.kitAny; rw [kt_list_tuple]; unfold PySem.W.kitAny; rw [kt_list_list], ?_⟩
    refine ⟨_, rfl, fun _ => ?_, fun hd => absurd (show true = false from hd) (by decide)⟩
    refine wb_cons (ws_if ?_)
    refine wt_w (ww_or ?_)
    refine wt_not ?_
    refine wt_val (fun _ => rfl) ?_
    refine we_isiT rfl B.isinstance bt_isinstance rfl B.tuple bt_tuple rfl B.list bt_list ?_
    refine we_var 0 rfl (by walk_at "vis") rfl ?_
    refine ⟨_, _, true, rfl, rfl, by unfold PySem.W.kitAny; rw [kt_list_tuple]; unfold PySem.W.kitAny; rw [kt_list_list], ?_⟩
    refine ⟨_, rfl, ?_⟩
    refine ⟨fun _ => ?_, fun hd => absurd (show false = true from hd) Bool.false_ne_true⟩
    refine ww_or1 ?_
    refine wt_cmp (nomark _) ?_
    refine we_isi rfl B.isinstance bt_isinstance rfl B.list bt_list ?_
    refine we_var 0 rfl (by walk_at "vis") rfl ?_
    refine ⟨_, _, _, .inl rfl, rfl, kt_list_list, ?_⟩
    refine we_isi rfl B.isinstance bt_isinstance rfl B.list bt_list ?_
    refine we_var 1 rfl (by walk_at "vis") rfl ?_
    refine ⟨_, _, _, .inl rfl, rfl, kt_list_list, ?_⟩
    refine ⟨_, _, .inl rfl, .inl rfl, ?_⟩
    refine opw_neB ?_
    refine ⟨_, rfl, fun hd => absurd (show false = true from hd) Bool.false_ne_true, fun _ => ?_⟩
    refine wb_nil ?_
    refine wb_cons (ws_if ?_)
    refine wt_cmp (nomark _) ?_
    refine we_b1 (x := "len") (id := "len") rfl B.len bt_len ?_
    refine we_var 0 rfl (by walk_at "vis") rfl ?_
    refine ⟨_, .inl rfl, ?_⟩
    refine c_len ?_
    refine we_b1 (x := "len") (id := "len") rfl B.len bt_len ?_
    refine we_var 1 rfl (by walk_at "vis") rfl ?_
    refine ⟨_, .inl rfl, ?_⟩
    refine c_len ?_
    refine ⟨_, _, .inl rfl, .inl rfl, ?_⟩
    refine opw_neI ?_
    refine ⟨_, rfl, fun hd => absurd hd (by simp), fun _ => ?_⟩
    refine wb_nil ?_
    refine wb_cons (ws_ret ?_)
    refine we_cmp (nomark _) ?_
    refine we_lcQ [("_law_k", 2)] rfl nd (blkOk_by (by rfl)) (lcS_preP (γ := List Int) (σT := Unit) [("_law_k", 2)] [.sh (.lst ds), .sh (.lst ds), .no] (fun _ => G) (en := eI) eI ?_)
    refine wi_rng1 rfl B.range ?_
    refine we_b1 (x := "len") (id := "len") rfl B.len bt_len ?_
    refine we_var 1 rfl (by walk_at "vis") rfl ?_
    refine ⟨_, .inl rfl, ?_⟩
    refine c_len ?_
    refine ⟨_, rfl, ⟨by omega, by omega⟩, ?_⟩
    refine ⟨rgI 0 (ds.length : Int), (), fun _ x => if 0 ≤ x ∧ x < (ds.length : Int) then .ok (none, ()) else .no, fun q => .ok q.1, fun l => l = [], fun _ => False, rfl, by rw [rgI_length]; have := hlim; omega, Wk.refl _, rfl, ?_, fun s x Q' h => ?_, fun q h => ?_⟩
    · have e : Out.compS (fun (_ : Unit) (x : Int) => if 0 ≤ x ∧ x < (ds.length : Int) then (.ok (none, ()) : Out (Option Int × Unit)) else .no) (rgI 0 (ds.length : Int)) [] () = .ok ([], ()) := compS_none _ _ fun x hx => by rw [mem_rgI] at hx; exact if_pos hx
      rw [e]
      exact rfl
    · by_cases hx : 0 ≤ x ∧ x < (ds.length : Int)
      · dsimp only at h
        rw [if_pos hx] at h
        obtain ⟨j, rfl⟩ := Int.eq_ofNat_of_zero_le hx.1
        have hj2 : j < ds.length := by omega
        have hjd : ds[j]? = some ds[j] := List.getElem?_eq_getElem hj2
        rintro Y ⟨s1, H1, C1, cl, fp, rfl⟩
        refine wg_name 2 nd rfl (by walk_at "vis") (by decide) (lt_ rfl) ?_
        rintro Y ⟨s1, H1, C1, cl, fp, rfl⟩
        refine wt_not ?_
        refine wt_val (fun _ => rfl) ?_
        refine we_cal (BlkX.tk ⟨_, _, _, _, _, rfl⟩) c_law_alike hr rfl ?_
        refine wa_cons ?_
        refine we_ix (fun _ _ => rfl) ?_
        refine we_var 0 rfl (by walk_at "vis") rfl ?_
        refine we_var 2 rfl (by walk_at "vis") rfl ?_
        refine ⟨_, _, .inl rfl, .inl rfl, ?_⟩
        refine ixw_lst (atD_nat hjd) ?_
        refine ⟨_, _, rfl, ?_⟩
        refine wa_cons ?_
        refine we_ix (fun _ _ => rfl) ?_
        refine we_var 1 rfl (by walk_at "vis") rfl ?_
        refine we_var 2 rfl (by walk_at "vis") rfl ?_
        refine ⟨_, _, .inl rfl, .inl rfl, ?_⟩
        refine ixw_lst (atD_nat hjd) ?_
        refine ⟨_, _, rfl, ?_⟩
        refine wa_nil ?_
        refine ⟨ds[j], rfl, hok.2 _ (List.getElem_mem hj2), ?_⟩
        refine ⟨_, rfl, ?_⟩
        exact ⟨fun hd => absurd (show false = true from hd) Bool.false_ne_true, fun _ => ⟨(), Wk.refl _, rfl, h⟩⟩
      · dsimp only at h; rw [if_neg hx] at h; exact h.elim
    · have hq1 : q.1 = [] := h
      rw [hq1]
      refine we_lst ?_
      refine wa_nil ?_
      refine ⟨by decide, ?_⟩
      refine ⟨_, _, .inl rfl, .inl rfl, ?_⟩
      refine opw_eqC (eqc_lst eqc_int) hr.units ([] : List Int) [] ?_
      exact ⟨_, rfl, hq⟩
  | dic ks xs => cases n <;> exact absurd (show false = true from hok) Bool.false_ne_true
  | ins C xs => cases n <;> exact absurd (show false = true from hok) Bool.false_ne_true
  | adr a => cases n <;> exact absurd (show false = true from hok) Bool.false_ne_true
  | obj a b c => cases n <;> exact absurd (show false = true from hok) Bool.false_ne_true
  | slo a b c e => cases n <;> exact absurd (show false = true from hok) Bool.false_ne_true
  | xdo a b => cases n <;> exact absurd (show false = true from hok) Bool.false_ne_true
  | scr a => cases n <;> exact absurd (show false = true from hok) Bool.false_ne_true
  | tab a => cases n <;> exact absurd (show false = true from hok) Bool.false_ne_true
  | hob a => cases n <;> exact absurd (show false = true from hok) Bool.false_ne_true
  | kd _ _ _ => cases n <;> exact absurd (show false = true from hok) Bool.false_ne_true
theorem ok_is_number {f : Addr} {fd : FuncData} (F : Fun K "is_number" "is_number" s_is_number f fd) (B : Bn mg) : FnOk P w K mg base (L2.CX P w) 3 f fd ["value", "lowest", "highest"] (spD K (FM cx (A := Int × Int × Int) (R := Bool) (fun a => [eI a.1, eI a.2.1, eI a.2.2]) (fun v => .sh (eB v)) (fun a => .ok (m_is_number a.1 a.2.1 a.2.2)))) := by
  refine def_ok F sc_is_number (fun ds G post px h => ?_) (fun cdv A outer s H E F0 T hr ds G post px h tk hp => ?_)
  · obtain ⟨_, rfl, _⟩ := h; rfl
  obtain ⟨⟨value1, lowest2, highest3⟩, rfl, h⟩ := h
  unfold m_is_number at h
  try dsimp only at h
  have nd := sc_is_number.nd
  change WB _ _ [.sh (eI value1), .sh (eI lowest2), .sh (eI highest3)] _ _
  -- 28
  refine wb_cons (ws_ret ?_)
  refine we_andP (c2 := (!false) && ((decide (lowest2 ≤ value1)) && (decide (value1 ≤ highest3)))) ?_
  refine we_isi rfl B.isinstance bt_isinstance rfl B.int bt_int ?_
  refine we_var 0 rfl (by walk_at "vis") rfl ?_
  refine ⟨_, _, _, .inl rfl, rfl, kt_int_int, ?_⟩
  refine ⟨_, rfl, fun _ => ?_, ?_⟩
  · skip
    refine we_andP (c2 := (decide (lowest2 ≤ value1)) && (decide (value1 ≤ highest3))) ?_
    refine we_not ?_
    refine we_isi rfl B.isinstance bt_isinstance rfl B.bool bt_bool ?_
    refine we_var 0 rfl (by walk_at "vis") rfl ?_
    refine ⟨_, _, _, .inl rfl, rfl, kt_int_bool, ?_⟩
    refine ⟨_, rfl, ?_⟩
    refine ⟨_, rfl, fun _ => ?_, ?_⟩
    · skip
      refine we_one ?_
      refine we_chainI (fun i j R q => opw_le q) (fun i j R q => opw_le q) ?_
      refine we_var 1 rfl (by walk_at "vis") rfl ?_
      refine we_var 0 rfl (by walk_at "vis") rfl ?_
      refine ⟨_, _, highest3, rfl, rfl, fun _ => ?_, ?_⟩
      · skip
        refine we_var 2 rfl (by walk_at "vis") rfl ?_
        exact ⟨rfl, rfl, rfl⟩
      exact ⟨rfl, rfl, rfl⟩
    exact ⟨rfl, rfl, rfl⟩
  refine ⟨_, rfl, ?_⟩
  exact h
theorem ok_is_number_n {f : Addr} {fd : FuncData} (F : Fun K "is_number" "is_number" s_is_number f fd) (B : Bn mg) : FnOk P w K mg base (L2.CX P w) 3 f fd ["value", "lowest", "highest"] (spD K (FM cx (A := IB × Int × Int) (R := Bool) (fun a => [eIB a.1, eI a.2.1, eI a.2.2]) (fun v => .sh (eB v)) (fun a => .ok (m_is_number_n a.1 a.2.1 a.2.2)))) := by
  refine def_ok F sc_is_number (fun ds G post px h => ?_) (fun cdv A outer s H E F0 T hr ds G post px h tk hp => ?_)
  · obtain ⟨_, rfl, _⟩ := h; rfl
  obtain ⟨⟨value1, lowest2, highest3⟩, rfl, h⟩ := h
  have nd := sc_is_number.nd
  cases value1 with
  | i value1 =>
    unfold m_is_number_n at h
    try dsimp only at h
    change WB _ _ [.sh (eI value1), .sh (eI lowest2), .sh (eI highest3)] _ _
    -- 28
    refine wb_cons (ws_ret ?_)
    refine we_andP (c2 := (!false) && ((decide (lowest2 ≤ value1)) && (decide (value1 ≤ highest3)))) ?_
    refine we_isi rfl B.isinstance bt_isinstance rfl B.int bt_int ?_
    refine we_var 0 rfl (by walk_at "vis") rfl ?_
    refine ⟨_, _, _, .inl rfl, rfl, kt_int_int, ?_⟩
    refine ⟨_, rfl, fun _ => ?_, ?_⟩
    · skip
      refine we_andP (c2 := (decide (lowest2 ≤ value1)) && (decide (value1 ≤ highest3))) ?_
      refine we_not ?_
      refine we_isi rfl B.isinstance bt_isinstance rfl B.bool bt_bool ?_
      refine we_var 0 rfl (by walk_at "vis") rfl ?_
      refine ⟨_, _, _, .inl rfl, rfl, kt_int_bool, ?_⟩
      refine ⟨_, rfl, ?_⟩
      refine ⟨_, rfl, fun _ => ?_, ?_⟩
      · skip
        refine we_one ?_
        refine we_chainI (fun i j R q => opw_le q) (fun i j R q => opw_le q) ?_
        refine we_var 1 rfl (by walk_at "vis") rfl ?_
        refine we_var 0 rfl (by walk_at "vis") rfl ?_
        refine ⟨_, _, highest3, rfl, rfl, fun _ => ?_, ?_⟩
        · skip
          refine we_var 2 rfl (by walk_at "vis") rfl ?_
          exact ⟨rfl, rfl, rfl⟩
        exact ⟨rfl, rfl, rfl⟩
      exact ⟨rfl, rfl, rfl⟩
    refine ⟨_, rfl, ?_⟩
    exact h
  | b value1 =>
    unfold m_is_number_n at h
    try dsimp only at h
    change WB _ _ [.sh (eB value1), .sh (eI lowest2), .sh (eI highest3)] _ _
    -- 28
    refine wb_cons (ws_ret ?_)
    refine we_andP (c2 := (!true) && false) ?_
    refine we_isi rfl B.isinstance bt_isinstance rfl B.int bt_int ?_
    refine we_var 0 rfl (by walk_at "vis") rfl ?_
    refine ⟨_, _, _, .inl rfl, rfl, kt_bool_int, ?_⟩
    refine ⟨_, rfl, fun _ => ?_, ?_⟩
    · skip
      refine we_andP (c2 := false) ?_
      refine we_not ?_
      refine we_isi rfl B.isinstance bt_isinstance rfl B.bool bt_bool ?_
      refine we_var 0 rfl (by walk_at "vis") rfl ?_
      refine ⟨_, _, _, .inl rfl, rfl, kt_bool_bool, ?_⟩
      refine ⟨_, rfl, ?_⟩
      refine ⟨_, rfl, fun hc => absurd hc (by decide), ?_⟩
      exact ⟨rfl, rfl, rfl⟩
    refine ⟨_, rfl, ?_⟩
    exact h
theorem ok_Ruler_init {f : Addr} {fd : FuncData} (F : Fun K "__init__" "Ruler.__init__" s_Ruler_init f fd) (B : Bn mg) (c_is_number : Cal P w K mg base "is_number" 3 ["value", "lowest", "highest"] (FM cx (A := Int × Int × Int) (R := Bool) (fun a => [eI a.1, eI a.2.1, eI a.2.2]) (fun v => .sh (eB v)) (fun a => .ok (m_is_number a.1 a.2.1 a.2.2)))) (cl_Ruler : Cl_Ruler K C_Ruler) {t_MAX_ERROR : Tok} (m_MAX_ERROR : mg "MAX_ERROR" = some (.int 9 t_MAX_ERROR)) {t_MAX_LENGTH : Tok} (m_MAX_LENGTH : mg "MAX_LENGTH" = some (.int 300 t_MAX_LENGTH)) {t_MAX_MARKS : Tok} (m_MAX_MARKS : mg "MAX_MARKS" = some (.int 12 t_MAX_MARKS)) {t_MIN_MARKS : Tok} (m_MIN_MARKS : mg "MIN_MARKS" = some (.int 2 t_MIN_MARKS)) (xw_InvalidRuler : XK2 P K mg "InvalidRuler" "part" "index" (cx 1)) : FnOk P w K mg base (L2.CX P w) 5 f fd ["self", "marks", "error"] (spI K C_Ruler (FMI cx (A := (List Int) × Int) (R := Rul) (fun a => [(eT eI) a.1, eI a.2]) (fun r => [.int r.error, .tup (r.marks.map D.int)]) (fun a => mk_Ruler a.1 a.2))) := by
  obtain ⟨q_Ruler_0, sl_Ruler_0⟩ := cl_Ruler.s0
  obtain ⟨q_Ruler_1, sl_Ruler_1⟩ := cl_Ruler.s1
  have nd := sc_Ruler_init.nd
  refine init2r_ok F sc_Ruler_init cl_Ruler.cls sl_Ruler_1 sl_Ruler_0 (fun ds G post px h => ?_) ((defBody s_Ruler_init).take 3) ((defBody s_Ruler_init).getD 3 (.Pass ⟨0, 0, 0, 0⟩)) ((defBody s_Ruler_init).getD 4 (.Pass ⟨0, 0, 0, 0⟩)) 1 2 rfl (fun cdv A outer s H E F0 T hr px => ⟨SlX.ps_sl (pe_var rfl (by walk_at "vis")) (pe_var rfl (by walk_at "vis")), SlX.ps_sl (pe_var rfl (by walk_at "vis")) (pe_var rfl (by walk_at "vis")), fun a0 ds G post h tk hp => ?_⟩)
  · obtain ⟨_, rfl, _⟩ := h; rfl
  obtain ⟨⟨marks1, error2⟩, rfl, h⟩ := h
  unfold mk_Ruler at h
  try dsimp only at h
  change WB _ _ [.sh (.adr a0), .sh ((eT eI) marks1), .sh (eI error2), .no, .no, .no] _ _
  -- 35
  refine Hold.h ?_
  refine wb_forOH (β := Rul) [3, 4] (σT := Unit) (fun s3 => [.sh (.adr a0), .sh ((eT eI) marks1), .sh (eI error2), .no, .no, .no]) (fun s3 => G) (eP eI eI) hp rfl ?_
  refine ti_enumT (f := eI) rfl B.enumerate ?_
  refine we_var 1 rfl (by walk_at "vis") rfl ?_
  refine ⟨marks1, _, rfl, fun hl6 => ?_⟩
  refine ⟨(penum marks1), (), _, _, _, _, rfl, (.eq (.eq (.eq (.no (.no (.no .nil)))))), rfl, h, fun s3 x5 Q' h => ?_, fun s4 h => ?_⟩
  · skip
    refine wg_pair 3 4 rfl nd rfl rfl (by walk_at "vis") (by walk_at "vis") (by decide) (by decide) (lt_ rfl) (lt_ rfl) ?_
    change WB _ _ [.sh (.adr a0), .sh ((eT eI) marks1), .sh (eI error2), .sh (eI x5.1), .sh (eI x5.2), .no] _ _
    -- 36
    refine wb_cons ?_
    refine Hold.h ?_
    refine ws_setH 5 nd rfl (by walk_at "vis") ?_
    refine we_ifN eI ?_
    refine wt_cmp (nomark _) ?_
    refine we_var 3 rfl (by walk_at "vis") rfl ?_
    refine we_int ?_
    refine ⟨_, _, .inl rfl, .inl rfl, ?_⟩
    refine opw_eqI ?_
    refine ⟨_, rfl, ?_⟩
    refine ⟨_, _, _, _, _, _, h, fun _ Q' h => ?_, fun _ Q' h => ?_, fun i7 h => ?_⟩
    · skip
      refine we_int ?_
      exact ⟨_, rfl, rfl, rfl, h⟩
    · skip
      refine we_bin ?_
      refine we_ix (fun _ _ => rfl) ?_
      refine we_var 1 rfl (by walk_at "vis") rfl ?_
      refine we_bin ?_
      refine we_var 3 rfl (by walk_at "vis") rfl ?_
      refine we_int ?_
      refine ⟨_, _, .inl rfl, .inl rfl, ?_⟩
      refine opw_sub ?_
      obtain ⟨x8, hx8, h⟩ := Out.gt h
      refine ⟨_, _, .inl rfl, .inl rfl, ?_⟩
      refine t_ixT (f := eI) hx8 ?_
      refine we_int ?_
      refine ⟨_, _, .inl rfl, .inl rfl, ?_⟩
      refine opw_add ?_
      exact ⟨_, rfl, rfl, rfl, h⟩
    refine ⟨lt_ rfl, _, rfl, ?_⟩
    change WB _ _ [.sh (.adr a0), .sh ((eT eI) marks1), .sh (eI error2), .sh (eI x5.1), .sh (eI x5.2), .sh (eI i7)] _ _
    -- 37
    refine wb_cons (ws_if ?_)
    refine wt_w ?_
    refine ww_orB ?_
    refine wt_cmp (nomark _) ?_
    refine we_var 3 rfl (by walk_at "vis") rfl ?_
    refine we_globI rfl m_MAX_MARKS ?_
    refine ⟨_, _, .inl rfl, .inl rfl, ?_⟩
    refine opw_eqI ?_
    refine ⟨_, rfl, ?_⟩
    refine ⟨(!(m_is_number x5.2 i7 (if (decide (x5.1 = (0 : Int))) = true then (0 : Int) else (300 : Int)))), fun _ => ?_, ?_⟩
    · skip
      refine ww_or1 ?_
      refine wt_not ?_
      refine wt_val (fun _ => rfl) ?_
      refine we_cal tk c_is_number hr rfl ?_
      refine wa_cons ?_
      refine we_var 4 rfl (by walk_at "vis") rfl ?_
      refine ⟨_, _, rfl, ?_⟩
      refine wa_cons ?_
      refine we_var 5 rfl (by walk_at "vis") rfl ?_
      refine ⟨_, _, rfl, ?_⟩
      refine wa_cons ?_
      refine we_ifP (en := eI) (va := (0 : Int)) (vb := (300 : Int)) ?_
      refine wt_cmp (nomark _) ?_
      refine we_var 3 rfl (by walk_at "vis") rfl ?_
      refine we_int ?_
      refine ⟨_, _, .inl rfl, .inl rfl, ?_⟩
      refine opw_eqI ?_
      refine ⟨_, rfl, ?_⟩
      refine ⟨fun _ => ?_, fun _ => ?_, ?_⟩
      · skip
        refine we_int ?_
        exact ⟨rfl, rfl, rfl⟩
      · skip
        refine we_globI rfl m_MAX_LENGTH ?_
        exact ⟨rfl, rfl, rfl⟩
      refine ⟨_, _, rfl, ?_⟩
      refine wa_nil ?_
      refine ⟨(x5.2, i7, if (decide (x5.1 = (0 : Int))) = true then (0 : Int) else (300 : Int)), rfl, ?_⟩
      refine ⟨_, rfl, ?_⟩
      exact ⟨rfl, rfl, rfl⟩
    refine ⟨fun hc => ?_, fun hc => ?_⟩
    · skip
      have h := (Out.iteb h).1 hc
      -- 38
      refine wb_cons (ws_raiseK2 (k := 0) xw_InvalidRuler (hr.mono (by omega)) rfl tk rfl ?_)
      refine we_str ?_
      refine ⟨_, rfl, ?_⟩
      refine we_var 3 rfl (by walk_at "vis") rfl ?_
      refine ⟨_, rfl, ?_⟩
      exact h
    have h := (Out.iteb h).2 hc
    refine wb_nil ?_
    exact wb_nil ⟨(), (.eq (.eq (.eq (.no (.no (.no .nil)))))), rfl, h⟩
  -- 39
  refine wb_cons (ws_if ?_)
  refine wt_cmp (nomark _) ?_
  refine we_b1 (x := "len") (id := "len") rfl B.len bt_len ?_
  refine we_var 1 rfl (by walk_at "vis") rfl ?_
  refine ⟨_, .inl rfl, ?_⟩
  refine t_lenT (f := eI) marks1 ?_
  refine we_globI rfl m_MIN_MARKS ?_
  refine ⟨_, _, .inl rfl, .inl rfl, ?_⟩
  refine opw_lt ?_
  refine ⟨_, rfl, ?_⟩
  refine ⟨fun hc => ?_, fun hc => ?_⟩
  · skip
    have h := (Out.iteb h).1 hc
    -- 40
    refine wb_cons (ws_raiseK2 (k := 0) xw_InvalidRuler (hr.mono (by omega)) rfl tk rfl ?_)
    refine we_str ?_
    refine ⟨_, rfl, ?_⟩
    refine we_b1 (x := "len") (id := "len") rfl B.len bt_len ?_
    refine we_var 1 rfl (by walk_at "vis") rfl ?_
    refine ⟨_, .inl rfl, ?_⟩
    refine t_lenT (f := eI) marks1 ?_
    refine ⟨_, rfl, ?_⟩
    exact h
  have h := (Out.iteb h).2 hc
  refine wb_nil ?_
  -- 41
  refine wb_cons (ws_if ?_)
  refine wt_not ?_
  refine wt_val (fun _ => rfl) ?_
  refine we_cal tk c_is_number hr rfl ?_
  refine wa_cons ?_
  refine we_var 2 rfl (by walk_at "vis") rfl ?_
  refine ⟨_, _, rfl, ?_⟩
  refine wa_cons ?_
  refine we_int ?_
  refine ⟨_, _, rfl, ?_⟩
  refine wa_cons ?_
  refine we_globI rfl m_MAX_ERROR ?_
  refine ⟨_, _, rfl, ?_⟩
  refine wa_nil ?_
  refine ⟨(error2, (0 : Int), (9 : Int)), rfl, ?_⟩
  refine ⟨_, rfl, ?_⟩
  refine ⟨fun hc => ?_, fun hc => ?_⟩
  · skip
    have h := (Out.iteb h).1 hc
    -- 42
    refine wb_cons (ws_raiseK2 (k := 0) xw_InvalidRuler (hr.mono (by omega)) rfl tk rfl ?_)
    refine we_str ?_
    refine ⟨_, rfl, ?_⟩
    refine we_int ?_
    refine ⟨_, rfl, ?_⟩
    exact h
  have h := (Out.iteb h).2 hc
  refine wb_nil ?_
  exact wb_nil ⟨rfl, _, _, rfl, rfl, h⟩
theorem ok_Ruler_marks {f : Addr} {fd : FuncData} (F : Fun K "marks" "Ruler.marks" s_Ruler_marks f fd) (B : Bn mg) (cl_Ruler : Cl_Ruler K C_Ruler) : FnOk P w K mg base (L2.CX P w) 3 f fd ["self"] (spD K (FM cx (A := Rul) (R := List Int) (fun a => [(eRul C_Ruler) a]) (fun v => .sh ((eT eI) v)) (fun a => .ok (m_Ruler_marks a)))) := by
  refine def_ok F sc_Ruler_marks (fun ds G post px h => ?_) (fun cdv A outer s H E F0 T hr ds G post px h tk hp => ?_)
  · obtain ⟨_, rfl, _⟩ := h; rfl
  obtain ⟨self1, rfl, h⟩ := h
  unfold m_Ruler_marks at h
  try dsimp only at h
  have nd := sc_Ruler_marks.nd
  obtain ⟨q_Ruler_0, sl_Ruler_0⟩ := cl_Ruler.s0
  obtain ⟨q_Ruler_1, sl_Ruler_1⟩ := cl_Ruler.s1
  change WB _ _ [.sh ((eRul C_Ruler) self1)] _ _
  -- 48
  refine wb_cons (ws_ret ?_)
  refine we_fld 1 cl_Ruler.cls sl_Ruler_1 ?_
  refine we_var 0 rfl (by walk_at "vis") rfl ?_
  refine ⟨_, _, rfl, rfl, ?_⟩
  refine ⟨_, rfl, ?_⟩
  exact h
theorem ok_Ruler_len {f : Addr} {fd : FuncData} (F : Fun K "__len__" "Ruler.__len__" s_Ruler_len f fd) (B : Bn mg) (cl_Ruler : Cl_Ruler K C_Ruler) : FnOk P w K mg base (L2.CX P w) 3 f fd ["self"] (spD K (FM cx (A := Rul) (R := Int) (fun a => [(eRul C_Ruler) a]) (fun v => .sh (eI v)) (fun a => .ok (m_Ruler___len a)))) := by
  refine def_ok F sc_Ruler_len (fun ds G post px h => ?_) (fun cdv A outer s H E F0 T hr ds G post px h tk hp => ?_)
  · obtain ⟨_, rfl, _⟩ := h; rfl
  obtain ⟨self1, rfl, h⟩ := h
  unfold m_Ruler___len at h
  try dsimp only at h
  have nd := sc_Ruler_len.nd
  obtain ⟨q_Ruler_0, sl_Ruler_0⟩ := cl_Ruler.s0
  obtain ⟨q_Ruler_1, sl_Ruler_1⟩ := cl_Ruler.s1
  change WB _ _ [.sh ((eRul C_Ruler) self1)] _ _
  -- 67
  refine wb_cons (ws_ret ?_)
  refine we_b1 (x := "len") (id := "len") rfl B.len bt_len ?_
  refine we_fld 1 cl_Ruler.cls sl_Ruler_1 ?_
  refine we_var 0 rfl (by walk_at "vis") rfl ?_
  refine ⟨_, _, rfl, rfl, ?_⟩
  refine ⟨_, .inl rfl, ?_⟩
  refine t_lenT (f := eI) self1.marks ?_
  refine ⟨_, rfl, ?_⟩
  exact h
theorem ok_mirrored {f : Addr} {fd : FuncData} (F : Fun K "mirrored" "mirrored" s_mirrored f fd) (B : Bn mg) : FnOk P w K mg base (L2.CX P w) 3 f fd ["marks"] (spD K (FM cx (A := List Int) (R := List Int) (fun a => [(eT eI) a]) (fun v => .sh ((eT eI) v)) (fun a => m_mirrored a))) := by
  refine def_ok F sc_mirrored (fun ds G post px h => ?_) (fun cdv A outer s H E F0 T hr ds G post px h tk hp => ?_)
  · obtain ⟨_, rfl, _⟩ := h; rfl
  obtain ⟨marks1, rfl, h⟩ := h
  unfold m_mirrored at h
  try dsimp only at h
  have nd := sc_mirrored.nd
  change WB _ _ [.sh ((eT eI) marks1), .no] _ _
  -- 30
  refine wb_cons (ws_ret ?_)
  refine we_t1 (x := "tuple") (id := "tuple") rfl B.tuple bt_tuple ?_
  refine we_lcQ [("mark", 1)] rfl nd (blkOk_by (by rfl)) (lcS_preP (γ := List Int) [("mark", 1)] [.sh ((eT eI) marks1), .no] (fun _ : Unit => G) (en := eI) eI ?_)
  refine ti_revL (f := eI) rfl B.reversed ?_
  refine we_t1 (x := "list") (id := "list") rfl B.list bt_list ?_
  refine we_var 0 rfl (by walk_at "vis") rfl ?_
  refine ⟨_, .inl rfl, ?_⟩
  refine c_listT ?_
  refine ⟨marks1, _, rfl, fun hl3 => ?_⟩
  refine ⟨((marks1).reverse), (), _, _, _, _, rfl, hl3, Wk.refl _, rfl, h, fun s4 x2 Q' h => ?_, fun l5 h => ?_⟩
  · skip
    rintro Y ⟨s1, H1, C1, cl, fp, rfl⟩
    refine wg_name 1 nd rfl (by walk_at "vis") (by decide) (lt_ rfl) ?_
    rintro Y ⟨s1, H1, C1, cl, fp, rfl⟩
    refine we_bin ?_
    refine we_ix (fun _ _ => rfl) ?_
    refine we_var 0 rfl (by walk_at "vis") rfl ?_
    refine we_un rfl ?_
    refine we_int ?_
    refine ⟨_, rfl, ?_⟩
    obtain ⟨x6, hx6, h⟩ := Out.gt h
    refine ⟨_, _, .inl rfl, .inl rfl, ?_⟩
    refine t_ixT (f := eI) hx6 ?_
    refine we_var 1 rfl (by walk_at "vis") rfl ?_
    refine ⟨_, _, .inl rfl, .inl rfl, ?_⟩
    refine opw_sub ?_
    exact ⟨(x6 - x2), (), _, rfl, Wk.refl _, rfl, h⟩
  refine ⟨_, .inl rfl, ?_⟩
  refine c_tuple ?_
  refine ⟨_, rfl, ?_⟩
  exact h
theorem ok_Ruler_turned {f : Addr} {fd : FuncData} (F : Fun K "turned" "Ruler.turned" s_Ruler_turned f fd) (B : Bn mg) (c_mirrored : Cal P w K mg base "mirrored" 3 ["marks"] (FM cx (A := List Int) (R := List Int) (fun a => [(eT eI) a]) (fun v => .sh ((eT eI) v)) (fun a => m_mirrored a))) (cl_Ruler : Cl_Ruler K C_Ruler) (k_Ruler : MakeD P w K mg base "Ruler" C_Ruler 5 ["self", "marks", "error"] (FMI cx (A := (List Int) × Int) (R := Rul) (fun a => [(eT eI) a.1, eI a.2]) (fun r => [.int r.error, .tup (r.marks.map D.int)]) (fun a => mk_Ruler a.1 a.2))) : FnOk P w K mg base (L2.CX P w) 8 f fd ["self"] (spD K (FM cx (A := Rul) (R := Rul) (fun a => [(eRul C_Ruler) a]) (fun v => .sh ((eRul C_Ruler) v)) (fun a => m_Ruler_turned a))) := by
  refine def_ok F sc_Ruler_turned (fun ds G post px h => ?_) (fun cdv A outer s H E F0 T hr ds G post px h tk hp => ?_)
  · obtain ⟨_, rfl, _⟩ := h; rfl
  obtain ⟨self1, rfl, h⟩ := h
  unfold m_Ruler_turned at h
  try dsimp only at h
  have nd := sc_Ruler_turned.nd
  obtain ⟨q_Ruler_0, sl_Ruler_0⟩ := cl_Ruler.s0
  obtain ⟨q_Ruler_1, sl_Ruler_1⟩ := cl_Ruler.s1
  change WB _ _ [.sh ((eRul C_Ruler) self1)] _ _
  -- 73
  refine wb_cons (ws_ret ?_)
  refine we_make tk k_Ruler hr rfl ?_
  refine wa_cons ?_
  refine we_cal tk c_mirrored hr rfl ?_
  refine wa_cons ?_
  refine we_fld 1 cl_Ruler.cls sl_Ruler_1 ?_
  refine we_var 0 rfl (by walk_at "vis") rfl ?_
  refine ⟨_, _, rfl, rfl, ?_⟩
  refine ⟨_, _, rfl, ?_⟩
  refine wa_nil ?_
  refine ⟨self1.marks, rfl, (Out.sb h).imp (fun r2 h => ?_) (fun _ he => he)⟩
  refine ⟨_, _, rfl, ?_⟩
  refine wa_cons ?_
  refine we_fld 0 cl_Ruler.cls sl_Ruler_0 ?_
  refine we_var 0 rfl (by walk_at "vis") rfl ?_
  refine ⟨_, _, rfl, rfl, ?_⟩
  refine ⟨_, _, rfl, ?_⟩
  refine wa_nil ?_
  refine ⟨(r2, self1.error), rfl, (Out.sb h).imp (fun r3 h => ?_) (fun _ he => he)⟩
  refine ⟨_, rfl, ?_⟩
  exact h
theorem ok_moved {f : Addr} {fd : FuncData} (F : Fun K "moved" "moved" s_moved f fd) (B : Bn mg) : FnOk P w K mg base (L2.CX P w) 3 f fd ["marks"] (spD K (FM cx (A := List Int) (R := List Int) (fun a => [(eT eI) a]) (fun v => .sh ((eT eI) v)) (fun a => m_moved a))) := by
  refine def_ok F sc_moved (fun ds G post px h => ?_) (fun cdv A outer s H E F0 T hr ds G post px h tk hp => ?_)
  · obtain ⟨_, rfl, _⟩ := h; rfl
  obtain ⟨marks1, rfl, h⟩ := h
  unfold m_moved at h
  try dsimp only at h
  have nd := sc_moved.nd
  change WB _ _ [.sh ((eT eI) marks1), .no] _ _
  -- 76
  refine wb_cons (ws_ret ?_)
  refine we_t1 (x := "tuple") (id := "tuple") rfl B.tuple bt_tuple ?_
  refine we_lcQ [("mark", 1)] rfl nd (blkOk_by (by rfl)) (lcS_preP (γ := List Int) [("mark", 1)] [.sh ((eT eI) marks1), .no] (fun _ : Unit => G) (en := eI) eI ?_)
  refine Hold.h ?_
  refine ti_tupH (f := eI) ?_
  refine we_var 0 rfl (by walk_at "vis") rfl ?_
  refine ⟨marks1, _, rfl, fun hl3 => ?_⟩
  refine ⟨marks1, (), _, _, _, _, rfl, hl3, Wk.refl _, rfl, h, fun s4 x2 Q' h => ?_, fun l5 h => ?_⟩
  · skip
    rintro Y ⟨s1, H1, C1, cl, fp, rfl⟩
    refine wg_name 1 nd rfl (by walk_at "vis") (by decide) (lt_ rfl) ?_
    rintro Y ⟨s1, H1, C1, cl, fp, rfl⟩
    refine we_bin ?_
    refine we_var 1 rfl (by walk_at "vis") rfl ?_
    refine we_ix (fun _ _ => rfl) ?_
    refine we_var 0 rfl (by walk_at "vis") rfl ?_
    refine we_int ?_
    obtain ⟨x6, hx6, h⟩ := Out.gt h
    refine ⟨_, _, .inl rfl, .inl rfl, ?_⟩
    refine t_ixT (f := eI) hx6 ?_
    refine ⟨_, _, .inl rfl, .inl rfl, ?_⟩
    refine opw_sub ?_
    exact ⟨(x2 - x6), (), _, rfl, Wk.refl _, rfl, h⟩
  refine ⟨_, .inl rfl, ?_⟩
  refine c_tuple ?_
  refine ⟨_, rfl, ?_⟩
  exact h
theorem ok_validate_piece {f : Addr} {fd : FuncData} (F : Fun K "validate_piece" "validate_piece" s_validate_piece f fd) (B : Bn mg) (c_is_number_n : Cal P w K mg base "is_number" 3 ["value", "lowest", "highest"] (FM cx (A := IB × Int × Int) (R := Bool) (fun a => [eIB a.1, eI a.2.1, eI a.2.2]) (fun v => .sh (eB v)) (fun a => .ok (m_is_number_n a.1 a.2.1 a.2.2)))) {t_MAX_LENGTH : Tok} (m_MAX_LENGTH : mg "MAX_LENGTH" = some (.int 300 t_MAX_LENGTH)) {t_MAX_MARKS : Tok} (m_MAX_MARKS : mg "MAX_MARKS" = some (.int 12 t_MAX_MARKS)) (xw_InvalidPiece : XK1 P K mg "InvalidPiece" "index" (cx 8)) : FnOk P w K mg base (L2.CX P w) 5 f fd ["piece", "index"] (spD K (FM cx (A := (List IB) × Int) (R := Unit) (fun a => [(eT eIB) a.1, eI a.2]) (fun v => .sh (eU v)) (fun a => m_validate_piece a.1 a.2))) := by
  refine def_ok F sc_validate_piece (fun ds G post px h => ?_) (fun cdv A outer s H E F0 T hr ds G post px h tk hp => ?_)
  · obtain ⟨_, rfl, _⟩ := h; rfl
  obtain ⟨⟨piece1, index2⟩, rfl, h⟩ := h
  unfold m_validate_piece at h
  try dsimp only at h
  have nd := sc_validate_piece.nd
  change WB _ _ [.sh ((eT eIB) piece1), .sh (eI index2), .no, .no, .no] _ _
  -- 78
  refine Hold.h ?_
  refine wb_forOH (β := Unit) [2, 3] (σT := Unit) (fun s3 => [.sh ((eT eIB) piece1), .sh (eI index2), .no, .no, .no]) (fun s3 => G) (eP eI eIB) hp rfl ?_
  refine ti_enumT (f := eIB) rfl B.enumerate ?_
  refine we_var 0 rfl (by walk_at "vis") rfl ?_
  refine ⟨piece1, _, rfl, fun hl6 => ?_⟩
  refine ⟨(penum piece1), (), _, _, _, _, rfl, (.eq (.eq (.no (.no (.no .nil))))), rfl, h, fun s3 x5 Q' h => ?_, fun s4 h => ?_⟩
  · skip
    refine wg_pair 2 3 rfl nd rfl rfl (by walk_at "vis") (by walk_at "vis") (by decide) (by decide) (lt_ rfl) (lt_ rfl) ?_
    change WB _ _ [.sh ((eT eIB) piece1), .sh (eI index2), .sh (eI x5.1), .sh (eIB x5.2), .no] _ _
    -- 79
    refine wb_cons ?_
    refine Hold.h ?_
    refine ws_setH 4 nd rfl (by walk_at "vis") ?_
    refine we_ifN eI ?_
    refine wt_cmp (nomark _) ?_
    refine we_var 2 rfl (by walk_at "vis") rfl ?_
    refine we_int ?_
    refine ⟨_, _, .inl rfl, .inl rfl, ?_⟩
    refine opw_eqI ?_
    refine ⟨_, rfl, ?_⟩
    refine ⟨_, _, _, _, _, _, h, fun _ Q' h => ?_, fun _ Q' h => ?_, fun i7 h => ?_⟩
    · skip
      refine we_int ?_
      exact ⟨_, rfl, rfl, rfl, h⟩
    · skip
      refine we_bin ?_
      refine we_num ?_
      refine we_ix (fun _ _ => rfl) ?_
      refine we_var 0 rfl (by walk_at "vis") rfl ?_
      refine we_bin ?_
      refine we_var 2 rfl (by walk_at "vis") rfl ?_
      refine we_int ?_
      refine ⟨_, _, .inl rfl, .inl rfl, ?_⟩
      refine opw_sub ?_
      obtain ⟨x8, hx8, h⟩ := Out.gt h
      refine ⟨_, _, .inl rfl, .inl rfl, ?_⟩
      refine t_ixT (f := eIB) hx8 ?_
      obtain ⟨n9, hn9, h⟩ := Out.gt h
      refine ⟨x8, n9, rfl, hn9, ?_⟩
      refine we_int ?_
      refine ⟨_, _, .inl rfl, .inl rfl, ?_⟩
      refine opw_add ?_
      exact ⟨_, rfl, rfl, rfl, h⟩
    refine ⟨lt_ rfl, _, rfl, ?_⟩
    change WB _ _ [.sh ((eT eIB) piece1), .sh (eI index2), .sh (eI x5.1), .sh (eIB x5.2), .sh (eI i7)] _ _
    -- 80
    refine wb_cons (ws_if ?_)
    refine wt_w ?_
    refine ww_orB ?_
    refine wt_cmp (nomark _) ?_
    refine we_var 2 rfl (by walk_at "vis") rfl ?_
    refine we_globI rfl m_MAX_MARKS ?_
    refine ⟨_, _, .inl rfl, .inl rfl, ?_⟩
    refine opw_eqI ?_
    refine ⟨_, rfl, ?_⟩
    refine ⟨(!(m_is_number_n x5.2 i7 (if (decide (x5.1 = (0 : Int))) = true then (0 : Int) else (300 : Int)))), fun _ => ?_, ?_⟩
    · skip
      refine ww_or1 ?_
      refine wt_not ?_
      refine wt_val (fun _ => rfl) ?_
      refine we_cal tk c_is_number_n hr rfl ?_
      refine wa_cons ?_
      refine we_var 3 rfl (by walk_at "vis") rfl ?_
      refine ⟨_, _, rfl, ?_⟩
      refine wa_cons ?_
      refine we_var 4 rfl (by walk_at "vis") rfl ?_
      refine ⟨_, _, rfl, ?_⟩
      refine wa_cons ?_
      refine we_ifP (en := eI) (va := (0 : Int)) (vb := (300 : Int)) ?_
      refine wt_cmp (nomark _) ?_
      refine we_var 2 rfl (by walk_at "vis") rfl ?_
      refine we_int ?_
      refine ⟨_, _, .inl rfl, .inl rfl, ?_⟩
      refine opw_eqI ?_
      refine ⟨_, rfl, ?_⟩
      refine ⟨fun _ => ?_, fun _ => ?_, ?_⟩
      · skip
        refine we_int ?_
        exact ⟨rfl, rfl, rfl⟩
      · skip
        refine we_globI rfl m_MAX_LENGTH ?_
        exact ⟨rfl, rfl, rfl⟩
      refine ⟨_, _, rfl, ?_⟩
      refine wa_nil ?_
      refine ⟨(x5.2, i7, if (decide (x5.1 = (0 : Int))) = true then (0 : Int) else (300 : Int)), rfl, ?_⟩
      refine ⟨_, rfl, ?_⟩
      exact ⟨rfl, rfl, rfl⟩
    refine ⟨fun hc => ?_, fun hc => ?_⟩
    · skip
      have h := (Out.iteb h).1 hc
      -- 81
      refine wb_cons (ws_raiseK1 (k := 0) xw_InvalidPiece (hr.mono (by omega)) rfl tk rfl ?_)
      refine we_var 1 rfl (by walk_at "vis") rfl ?_
      refine ⟨_, rfl, ?_⟩
      exact h
    have h := (Out.iteb h).2 hc
    refine wb_nil ?_
    exact wb_nil ⟨(), (.eq (.eq (.no (.no (.no .nil))))), rfl, h⟩
  -- 82
  refine wb_cons (ws_if ?_)
  refine wt_cmp (nomark _) ?_
  refine we_b1 (x := "len") (id := "len") rfl B.len bt_len ?_
  refine we_var 0 rfl (by walk_at "vis") rfl ?_
  refine ⟨_, .inl rfl, ?_⟩
  refine t_lenT (f := eIB) piece1 ?_
  refine we_int ?_
  refine ⟨_, _, .inl rfl, .inl rfl, ?_⟩
  refine opw_eqI ?_
  refine ⟨_, rfl, ?_⟩
  refine ⟨fun hc => ?_, fun hc => ?_⟩
  · skip
    have h := (Out.iteb h).1 hc
    -- 83
    refine wb_cons (ws_raiseK1 (k := 0) xw_InvalidPiece (hr.mono (by omega)) rfl tk rfl ?_)
    refine we_var 1 rfl (by walk_at "vis") rfl ?_
    refine ⟨_, rfl, ?_⟩
    exact h
  have h := (Out.iteb h).2 hc
  refine wb_nil ?_
  exact wb_nil h
theorem ok_spots_on {f : Addr} {fd : FuncData} (F : Fun K "spots_on" "spots_on" s_spots_on f fd) (B : Bn mg) (c_mirrored : Cal P w K mg base "mirrored" 3 ["marks"] (FM cx (A := List Int) (R := List Int) (fun a => [(eT eI) a]) (fun v => .sh ((eT eI) v)) (fun a => m_mirrored a))) (c_moved : Cal P w K mg base "moved" 3 ["marks"] (FM cx (A := List Int) (R := List Int) (fun a => [(eT eI) a]) (fun v => .sh ((eT eI) v)) (fun a => m_moved a))) (cl_Ruler : Cl_Ruler K C_Ruler) (p_Ruler_marks : PropD P w K mg base C_Ruler "marks" 3 (FM cx (A := Rul) (R := List Int) (fun a => [(eRul C_Ruler) a]) (fun v => .sh ((eT eI) v)) (fun a => .ok (m_Ruler_marks a)))) (x_Ruler_len : SpecD P w K mg base C_Ruler "__len__" 3 ["self"] (FM cx (A := Rul) (R := Int) (fun a => [(eRul C_Ruler) a]) (fun v => .sh (eI v)) (fun a => .ok (m_Ruler___len a)))) : FnOk P w K mg base (L2.CX P w) 6 f fd ["ruler", "piece"] (spD K (FM cx (A := Rul × (List Int)) (R := List ((Int × Bool))) (fun a => [(eRul C_Ruler) a.1, (eT eI) a.2]) (fun v => .fr ((eL (eP eI eB)) v)) (fun a => m_spots_on a.1 a.2))) := by
  refine def_ok F sc_spots_on (fun ds G post px h => ?_) (fun cdv A outer s H E F0 T hr ds G post px h tk hp => ?_)
  · obtain ⟨_, rfl, _⟩ := h; rfl
  obtain ⟨⟨ruler1, piece2⟩, rfl, h⟩ := h
  unfold m_spots_on at h
  try dsimp only at h
  have nd := sc_spots_on.nd
  obtain ⟨q_Ruler_0, sl_Ruler_0⟩ := cl_Ruler.s0
  obtain ⟨q_Ruler_1, sl_Ruler_1⟩ := cl_Ruler.s1
  change WB _ _ [.sh ((eRul C_Ruler) ruler1), .sh ((eT eI) piece2), .no, .no, .no, .no] _ _
  -- 85
  refine wb_cons (ws_par 2 3 rfl nd rfl rfl (by decide) rfl rfl (by rfl) ?_)
  refine we_lst ?_
  refine wa_nil ?_
  refine ⟨by decide, ?_⟩
  refine ⟨_, _, rfl, ?_⟩
  refine we_cal tk c_mirrored hr rfl ?_
  refine wa_cons ?_
  refine we_var 1 rfl (by walk_at "vis") rfl ?_
  refine ⟨_, _, rfl, ?_⟩
  refine wa_nil ?_
  refine ⟨piece2, rfl, (Out.sb h).imp (fun r3 h => ?_) (fun _ he => he)⟩
  refine ⟨_, _, rfl, lt_ rfl, lt_ rfl, ?_⟩
  refine Hold.h ?_
  refine wb_letH h (fun found4 => [.sh ((eRul C_Ruler) ruler1), .sh ((eT eI) piece2), .own ((eL (eP eI eB)) found4), .sh ((eT eI) r3), .no, .no]) rfl fun found4 h => ?_
  refine Hold.h ?_
  refine wb_letH h (fun other5 => [.sh ((eRul C_Ruler) ruler1), .sh ((eT eI) piece2), .own ((eL (eP eI eB)) found4), .sh ((eT eI) other5), .no, .no]) rfl fun other5 h => ?_
  -- 86
  refine Hold.h ?_
  refine wb_forOH (β := List ((Int × Bool))) [4] (σT := List ((Int × Bool))) (fun s6 => [.sh ((eRul C_Ruler) ruler1), .sh ((eT eI) piece2), .own ((eL (eP eI eB)) s6), .sh ((eT eI) other5), .no, .no]) (fun s6 => G) eI hp rfl ?_
  refine wi_rng1 rfl B.range ?_
  refine we_bin ?_
  refine we_bin ?_
  refine we_b1 (x := "len") (id := "len") rfl B.len bt_len ?_
  refine we_var 0 rfl (by walk_at "vis") rfl ?_
  refine ⟨_, .inl rfl, ?_⟩
  obtain ⟨g9, h⟩ := Out.gd h
  refine c_lenI x_Ruler_len hr (fun G_ => ⟨ruler1, rfl, rfl, _, rfl, g9, ?_⟩)
  refine we_b1 (x := "len") (id := "len") rfl B.len bt_len ?_
  refine we_var 1 rfl (by walk_at "vis") rfl ?_
  refine ⟨_, .inl rfl, ?_⟩
  refine t_lenT (f := eI) piece2 ?_
  refine ⟨_, _, .inl rfl, .inl rfl, ?_⟩
  refine opw_sub ?_
  refine we_int ?_
  refine ⟨_, _, .inl rfl, .inl rfl, ?_⟩
  refine opw_add ?_
  obtain ⟨g10, h⟩ := Out.gd h
  refine ⟨(((m_Ruler___len ruler1) - ((piece2).length : Int)) + (1 : Int)), rfl, g10, ?_⟩
  refine ⟨(rgI 0 (((m_Ruler___len ruler1) - ((piece2).length : Int)) + (1 : Int))), found4, _, _, _, _, rfl, (.eq (.eq (.eq (.eq (.no (.no .nil)))))), rfl, h, fun s6 x8 Q' h => ?_, fun s7 h => ?_⟩
  · skip
    refine wg_name 4 nd rfl (by walk_at "vis") (by decide) (lt_ rfl) ?_
    change WB _ _ [.sh ((eRul C_Ruler) ruler1), .sh ((eT eI) piece2), .own ((eL (eP eI eB)) s6), .sh ((eT eI) other5), .sh (eI x8), .no] _ _
    -- 87
    refine wb_cons ?_
    refine Hold.h ?_
    refine ws_setH 5 nd rfl (by walk_at "vis") ?_
    refine we_cal tk c_moved hr rfl ?_
    refine wa_cons ?_
    refine we_slice ?_
    refine we_prop cl_Ruler.cls p_Ruler_marks hr ?_
    refine we_var 0 rfl (by walk_at "vis") rfl ?_
    refine ⟨_, rfl, ruler1, rfl, ?_⟩
    refine wo_some ?_
    refine we_var 4 rfl (by walk_at "vis") rfl ?_
    refine ⟨_, rfl, ?_⟩
    refine wo_some ?_
    refine we_bin ?_
    refine we_var 4 rfl (by walk_at "vis") rfl ?_
    refine we_b1 (x := "len") (id := "len") rfl B.len bt_len ?_
    refine we_var 1 rfl (by walk_at "vis") rfl ?_
    refine ⟨_, .inl rfl, ?_⟩
    refine t_lenT (f := eI) piece2 ?_
    refine ⟨_, _, .inl rfl, .inl rfl, ?_⟩
    refine opw_add ?_
    refine ⟨_, rfl, ?_⟩
    refine ⟨_, .inl rfl, ?_⟩
    refine t_slT (f := eI) (xs := m_Ruler_marks ruler1) ?_
    refine ⟨_, _, rfl, ?_⟩
    refine wa_nil ?_
    refine ⟨pcut (m_Ruler_marks ruler1) (some x8) (some (x8 + ((piece2).length : Int))), rfl, (Out.sb h).imp (fun r12 h => ?_) (fun _ he => he)⟩
    refine ⟨lt_ rfl, _, rfl, ?_⟩
    change WB _ _ [.sh ((eRul C_Ruler) ruler1), .sh ((eT eI) piece2), .own ((eL (eP eI eB)) s6), .sh ((eT eI) other5), .sh (eI x8), .sh ((eT eI) r12)] _ _
    -- 88
    refine wb_join (β := (List ((Int × Bool)))) (σT := List ((Int × Bool))) (fun s13 => [.sh ((eRul C_Ruler) ruler1), .sh ((eT eI) piece2), .own ((eL (eP eI eB)) s13), .sh ((eT eI) other5), .sh (eI x8), .sh ((eT eI) r12)]) (fun s13 => G) h (fun Q' h => ?_) (fun s13 h => ?_)
    · skip
      refine ws_if ?_
      refine wt_cmp (nomark _) ?_
      refine we_var 5 rfl (by walk_at "vis") rfl ?_
      refine we_var 1 rfl (by walk_at "vis") rfl ?_
      refine ⟨_, _, .inl rfl, .inl rfl, ?_⟩
      refine opw_eqC (eqc_tup eqc_int) hr.units r12 piece2 ?_
      refine ⟨_, rfl, ?_⟩
      refine ⟨fun hc => ?_, fun hc => ?_⟩
      · skip
        have h := (Out.iteb h).1 hc
        -- 89
        refine wb_cons (ws_expr ?_)
        refine we_appendT (f := (eP eI eB)) ?_
        refine we_var 2 rfl (by walk_at "vis") rfl ?_
        refine ⟨_, s6, rfl, rfl, ?_⟩
        refine we_tup ?_
        refine wa_cons ?_
        refine we_var 4 rfl (by walk_at "vis") rfl ?_
        refine ⟨_, _, rfl, ?_⟩
        refine wa_cons ?_
        refine we_bl ?_
        refine ⟨_, _, rfl, ?_⟩
        refine wa_nil ?_
        refine ⟨lt_ rfl, ?_⟩
        obtain ⟨g15, h⟩ := Out.gd h
        refine ⟨(x8, false), _, s6, rfl, rfl, g15, ?_⟩
        refine Hold.h ?_
        refine wb_letH h (fun found16 => [.sh ((eRul C_Ruler) ruler1), .sh ((eT eI) piece2), .own ((eL (eP eI eB)) found16), .sh ((eT eI) other5), .sh (eI x8), .sh ((eT eI) r12)]) rfl fun found16 h => ?_
        exact wb_nil ⟨found16, (.eq (.eq (.eq (.eq (.eq (.eq .nil)))))), rfl, h⟩
      have h := (Out.iteb h).2 hc
      exact wb_nil ⟨s6, (.eq (.eq (.eq (.eq (.eq (.eq .nil)))))), rfl, h⟩
    -- 90
    refine wb_join (β := (List ((Int × Bool)))) (σT := List ((Int × Bool))) (fun s17 => [.sh ((eRul C_Ruler) ruler1), .sh ((eT eI) piece2), .own ((eL (eP eI eB)) s17), .sh ((eT eI) other5), .sh (eI x8), .sh ((eT eI) r12)]) (fun s17 => G) h (fun Q' h => ?_) (fun s17 h => ?_)
    · skip
      refine ws_if ?_
      refine wt_w ?_
      refine ww_andB ?_
      refine wt_cmp (nomark _) ?_
      refine we_var 5 rfl (by walk_at "vis") rfl ?_
      refine we_var 3 rfl (by walk_at "vis") rfl ?_
      refine ⟨_, _, .inl rfl, .inl rfl, ?_⟩
      refine opw_eqC (eqc_tup eqc_int) hr.units r12 other5 ?_
      refine ⟨_, rfl, ?_⟩
      refine ⟨(!decide (other5 = piece2)), fun _ => ?_, ?_⟩
      · skip
        refine ww_and1 ?_
        refine wt_cmp (nomark _) ?_
        refine we_var 3 rfl (by walk_at "vis") rfl ?_
        refine we_var 1 rfl (by walk_at "vis") rfl ?_
        refine ⟨_, _, .inl rfl, .inl rfl, ?_⟩
        refine opw_neC (eqc_tup eqc_int) hr.units other5 piece2 ?_
        refine ⟨_, rfl, ?_⟩
        exact ⟨rfl, rfl, rfl⟩
      refine ⟨fun hc => ?_, fun hc => ?_⟩
      · skip
        have h := (Out.iteb h).1 hc
        -- 91
        refine wb_cons (ws_expr ?_)
        refine we_appendT (f := (eP eI eB)) ?_
        refine we_var 2 rfl (by walk_at "vis") rfl ?_
        refine ⟨_, s13, rfl, rfl, ?_⟩
        refine we_tup ?_
        refine wa_cons ?_
        refine we_var 4 rfl (by walk_at "vis") rfl ?_
        refine ⟨_, _, rfl, ?_⟩
        refine wa_cons ?_
        refine we_bl ?_
        refine ⟨_, _, rfl, ?_⟩
        refine wa_nil ?_
        refine ⟨lt_ rfl, ?_⟩
        obtain ⟨g19, h⟩ := Out.gd h
        refine ⟨(x8, true), _, s13, rfl, rfl, g19, ?_⟩
        refine Hold.h ?_
        refine wb_letH h (fun found20 => [.sh ((eRul C_Ruler) ruler1), .sh ((eT eI) piece2), .own ((eL (eP eI eB)) found20), .sh ((eT eI) other5), .sh (eI x8), .sh ((eT eI) r12)]) rfl fun found20 h => ?_
        exact wb_nil ⟨found20, (.eq (.eq (.eq (.eq (.eq (.eq .nil)))))), rfl, h⟩
      have h := (Out.iteb h).2 hc
      exact wb_nil ⟨s13, (.eq (.eq (.eq (.eq (.eq (.eq .nil)))))), rfl, h⟩
    exact wb_nil ⟨s17, (.eq (.eq (.eq (.eq (.no (.no .nil)))))), rfl, h⟩
  -- 92
  refine wb_cons (ws_ret ?_)
  refine we_var 2 rfl (by walk_at "vis") rfl ?_
  refine ⟨_, rfl, ?_⟩
  exact h
theorem ok_spots {f : Addr} {fd : FuncData} (F : Fun K "spots" "spots" s_spots f fd) (B : Bn mg) (c_spots_on : Cal P w K mg base "spots_on" 6 ["ruler", "piece"] (FM cx (A := Rul × (List Int)) (R := List ((Int × Bool))) (fun a => [(eRul C_Ruler) a.1, (eT eI) a.2]) (fun v => .fr ((eL (eP eI eB)) v)) (fun a => m_spots_on a.1 a.2))) (c_validate_piece : Cal P w K mg base "validate_piece" 5 ["piece", "index"] (FM cx (A := (List IB) × Int) (R := Unit) (fun a => [(eT eIB) a.1, eI a.2]) (fun v => .sh (eU v)) (fun a => m_validate_piece a.1 a.2))) : FnOk P w K mg base (L2.CX P w) 8 f fd ["ruler", "piece"] (spD K (FM cx (A := Rul × (List IB)) (R := List ((Int × Bool))) (fun a => [(eRul C_Ruler) a.1, (eT eIB) a.2]) (fun v => .fr ((eL (eP eI eB)) v)) (fun a => m_spots a.1 a.2))) := by
  refine def_ok F sc_spots (fun ds G post px h => ?_) (fun cdv A outer s H E F0 T hr ds G post px h tk hp => ?_)
  · obtain ⟨_, rfl, _⟩ := h; rfl
  obtain ⟨⟨ruler1, piece2⟩, rfl, h⟩ := h
  unfold m_spots at h
  try dsimp only at h
  have nd := sc_spots.nd
  change WB _ _ [.sh ((eRul C_Ruler) ruler1), .sh ((eT eIB) piece2)] _ _
  -- 94
  refine wb_cons (ws_expr ?_)
  refine we_cal tk c_validate_piece hr rfl ?_
  refine wa_cons ?_
  refine we_var 1 rfl (by walk_at "vis") rfl ?_
  refine ⟨_, _, rfl, ?_⟩
  refine wa_cons ?_
  refine we_int ?_
  refine ⟨_, _, rfl, ?_⟩
  refine wa_nil ?_
  refine ⟨(piece2, (0 : Int)), rfl, (Out.sb h).imp (fun r3 h => ?_) (fun _ he => he)⟩
  -- 95
  refine wb_cons (ws_ret ?_)
  refine we_cal tk c_spots_on hr rfl ?_
  refine wa_cons ?_
  refine we_var 0 rfl (by walk_at "vis") rfl ?_
  refine ⟨_, _, rfl, ?_⟩
  refine wa_cons ?_
  refine we_nums ?_
  refine we_var 1 rfl (by walk_at "vis") rfl ?_
  obtain ⟨n4, hn4, h⟩ := Out.gt h
  refine ⟨piece2, n4, rfl, hn4, ?_⟩
  refine ⟨_, _, rfl, ?_⟩
  refine wa_nil ?_
  refine ⟨(ruler1, n4), rfl, (Out.sb h).imp (fun r5 h => ?_) (fun _ he => he)⟩
  refine ⟨_, rfl, ?_⟩
  exact h
theorem ok_Origin_init {f : Addr} {fd : FuncData} (F : Fun K "__init__" "Origin.__init__" s_Origin_init f fd) (B : Bn mg) (c_spots : Cal P w K mg base "spots" 8 ["ruler", "piece"] (FM cx (A := Rul × (List IB)) (R := List ((Int × Bool))) (fun a => [(eRul C_Ruler) a.1, (eT eIB) a.2]) (fun v => .fr ((eL (eP eI eB)) v)) (fun a => m_spots a.1 a.2))) {t_MAX_ORIGINS : Tok} (m_MAX_ORIGINS : mg "MAX_ORIGINS" = some (.int 6 t_MAX_ORIGINS)) (cl_Origin : Clo_Origin K C_Origin) (xc_InvalidNumber : XC K mg "InvalidNumber" (cx 6)) (xc_NoPlace : XC K mg "NoPlace" (cx 19)) : FnOk P w K mg base (L2.CX P w) 10 f fd ["self", "rulers", "piece"] (spD K (FIO cx C_Origin ns_Origin (σT := S_Origin) (A := (List Rul) × (List IB)) (fl_Origin C_Ruler) (fun a => [(eT (eRul C_Ruler)) a.1, (eT eIB) a.2]) (fun a => mk_Origin a.1 a.2))) := by
  refine def_ok F sc_Origin_init (fun ds G post px h => ?_) (fun cdv A outer s H E F0 T hr ds G post px h tk hp => ?_)
  · obtain ⟨_, _, _, _, rfl, _⟩ := h; rfl
  obtain ⟨⟨rulers1, piece2⟩, o, dx, GI, rfl, hG, hi1, hi2, hi3, h⟩ := h
  have hP : obA C_Origin o [] [] [o] G := by rw [hG]; exact obA_new
  have hF : Frm [] GI [o] G := by rw [hG]; exact frm_new hi1 hi2
  unfold mk_Origin at h
  try dsimp only at h
  have nd := sc_Origin_init.nd
  change WB _ _ [.sh (.adr o), .sh ((eT (eRul C_Ruler)) rulers1), .sh ((eT eIB) piece2), .no, .no, .no, .no] _ _
  -- 103
  refine wb_cons (ws_if ?_)
  refine wt_not ?_
  refine wt_chainI (fun i j R q => opw_le q) (fun i j R q => opw_le q) ?_
  refine we_int ?_
  refine we_b1 (x := "len") (id := "len") rfl B.len bt_len ?_
  refine we_var 1 rfl (by walk_at "vis") rfl ?_
  refine ⟨_, .inl rfl, ?_⟩
  refine t_lenT (f := (eRul C_Ruler)) rulers1 ?_
  refine ⟨_, _, (6 : Int), rfl, rfl, fun _ => ?_, ?_⟩
  · skip
    refine we_globI rfl m_MAX_ORIGINS ?_
    exact ⟨rfl, rfl, rfl⟩
  refine ⟨fun hc => ?_, fun hc => ?_⟩
  · skip
    have h := (Out.iteb h).1 hc
    -- 104
    exact wb_cons (ws_raise1 xc_InvalidNumber rfl tk rfl (h _ fun b_ hb_ => hF.1 b_ (fun z => nomatch z) hb_))
  have h := (Out.iteb h).2 hc
  refine wb_nil ?_
  -- 105
  refine wb_cons (ws_fldA (ns := []) (fs := []) cl_Origin.cls cl_Origin.n_all_rulers (by decide) ?_)
  refine we_var 1 rfl (by walk_at "vis") rfl ?_
  refine ⟨_, _, rfl, ?_⟩
  refine we_var 0 rfl (by walk_at "vis") rfl ?_
  refine ⟨_, _, rfl, hP, fun fp1 G3 hP1 hF1 => ?_⟩
  have hP : obA C_Origin o ["all_rulers"] [.sh ((eT (eRul C_Ruler)) rulers1)] _ G3 := hP1
  have hF := hF.trans hF1
  change WB _ _ [.sh (.adr o), .sh ((eT (eRul C_Ruler)) rulers1), .sh ((eT eIB) piece2), .no, .no, .no, .no] _ _
  -- 106
  refine wb_cons (ws_fldA (ns := ["all_rulers"]) (fs := [.sh ((eT (eRul C_Ruler)) rulers1)]) cl_Origin.cls cl_Origin.n_size (by decide) ?_)
  refine we_b1 (x := "len") (id := "len") rfl B.len bt_len ?_
  refine we_var 2 rfl (by walk_at "vis") rfl ?_
  refine ⟨_, .inl rfl, ?_⟩
  refine t_lenT (f := eIB) piece2 ?_
  refine ⟨_, _, rfl, ?_⟩
  refine we_var 0 rfl (by walk_at "vis") rfl ?_
  refine ⟨_, _, rfl, hP, fun fp1 G4 hP1 hF1 => ?_⟩
  have hP : obA C_Origin o ["all_rulers", "size"] [.sh ((eT (eRul C_Ruler)) rulers1), .sh (eI ((piece2).length : Int))] _ G4 := hP1
  have hF := hF.trans hF1
  change WB _ _ [.sh (.adr o), .sh ((eT (eRul C_Ruler)) rulers1), .sh ((eT eIB) piece2), .no, .no, .no, .no] _ _
  -- 107
  refine wb_cons (ws_fldN (ns := ["all_rulers", "size"]) (fs := [.sh ((eT (eRul C_Ruler)) rulers1), .sh (eI ((piece2).length : Int))]) cl_Origin.cls cl_Origin.n_left (by decide) ?_)
  refine we_lst ?_
  refine wa_nil ?_
  refine ⟨by decide, ?_⟩
  refine ⟨_, rfl, fun a6 ha6 => ?_⟩
  refine we_var 0 rfl (by walk_at "vis") rfl ?_
  refine ⟨_, _, rfl, rfl, hP, fun fp1 G5 hP1 hF1 => ?_⟩
  have hP : obA C_Origin o ["all_rulers", "size", "left"] [.sh ((eT (eRul C_Ruler)) rulers1), .sh (eI ((piece2).length : Int)), .mu (List.map (eP3 eI eI eB) ([] : List ((Int × Int × Bool))))] _ G5 := hP1
  have hF := hF.trans hF1
  change WB _ _ [.sh (.adr o), .sh ((eT (eRul C_Ruler)) rulers1), .sh ((eT eIB) piece2), .no, .no, .no, .no] _ _
  -- 108
  refine wb_forOG (β := S_Origin) [3, 4] (σT := List ((Int × Int × Bool))) (fun s7 => [.sh (.adr o), .sh ((eT (eRul C_Ruler)) rulers1), .sh ((eT eIB) piece2), .no, .no, .no, .no]) (fun s7 G' => ∃ fp', obA C_Origin o ["all_rulers", "size", "left"] [.sh ((eT (eRul C_Ruler)) rulers1), .sh (eI ((piece2).length : Int)), .mu (List.map (eP3 eI eI eB) s7)] fp' G' ∧ Frm [] GI fp' G') (eP eI (eRul C_Ruler)) hp rfl ?_
  refine ti_enumT (f := (eRul C_Ruler)) rfl B.enumerate ?_
  refine we_var 1 rfl (by walk_at "vis") rfl ?_
  refine ⟨rulers1, _, rfl, fun hl10 => ?_⟩
  refine ⟨(penum rulers1), ([] : List ((Int × Int × Bool))), _, _, _, _, rfl, (.eq (.eq (.eq (.no (.no (.no (.no .nil))))))), ⟨_, hP, hF⟩, h, fun s7 G11 x9 Q' hg h => ?_, fun s8 G12 hg h => ?_⟩
  · skip
    obtain ⟨fp, hP, hF⟩ := hg
    refine wg_pair 3 4 rfl nd rfl rfl (by walk_at "vis") (by walk_at "vis") (by decide) (by decide) (lt_ rfl) (lt_ rfl) ?_
    change WB _ _ [.sh (.adr o), .sh ((eT (eRul C_Ruler)) rulers1), .sh ((eT eIB) piece2), .sh (eI x9.1), .sh ((eRul C_Ruler) x9.2), .no, .no] _ _
    -- 109
    refine wb_cons (ws_expr ?_)
    refine we_extF (ns := ["all_rulers", "size", "left"]) (fs := [.sh ((eT (eRul C_Ruler)) rulers1), .sh (eI ((piece2).length : Int)), .mu (List.map (eP3 eI eI eB) s7)]) (fe := (eP3 eI eI eB)) (xs := s7) cl_Origin.cls cl_Origin.n_left rfl (by intro _; rfl) ?_
    refine we_var 0 rfl (by walk_at "vis") rfl ?_
    refine ⟨_, _, rfl, hP, ?_⟩
    refine we_lcQ [("first", 5), ("turned", 6)] rfl nd (blkOk_by (by rfl)) (lc0_pre [("first", 5), ("turned", 6)] [.sh (.adr o), .sh ((eT (eRul C_Ruler)) rulers1), .sh ((eT eIB) piece2), .sh (eI x9.1), .sh ((eRul C_Ruler) x9.2), .no, .no] (en := (eP eI eB)) (eP3 eI eI eB) (fun (x15 : (Int × Bool)) => (x9.1, x15.1, x15.2)) ?_)
    refine ti_lst (f := (eP eI eB)) ?_
    refine we_cal tk c_spots hr rfl ?_
    refine wa_cons ?_
    refine we_var 4 rfl (by walk_at "vis") rfl ?_
    refine ⟨_, _, rfl, ?_⟩
    refine wa_cons ?_
    refine we_var 2 rfl (by walk_at "vis") rfl ?_
    refine ⟨_, _, rfl, ?_⟩
    refine wa_nil ?_
    refine ⟨(x9.2, piece2), rfl, (Out.sb h).imp (fun r16 h => ?_) (fun _ he => he _ fun b_ hb_ => hF.1 b_ (fun z => nomatch z) hb_)⟩
    refine ⟨r16, _, rfl, fun hl17 => ?_⟩
    refine ⟨r16, rfl, hl17, Wk.refl _, fun x15 => ?_, ?_⟩
    · skip
      rintro Y ⟨s1, H1, C1, cl, fp, rfl⟩
      refine wg_pair 5 6 rfl nd rfl rfl (by walk_at "vis") (by walk_at "vis") (by decide) (by decide) (lt_ rfl) (lt_ rfl) ?_
      rintro Y ⟨s1, H1, C1, cl, fp, rfl⟩
      refine we_tup ?_
      refine wa_cons ?_
      refine we_var 3 rfl (by walk_at "vis") rfl ?_
      refine ⟨_, _, rfl, ?_⟩
      refine wa_cons ?_
      refine we_var 5 rfl (by walk_at "vis") rfl ?_
      refine ⟨_, _, rfl, ?_⟩
      refine wa_cons ?_
      refine we_var 6 rfl (by walk_at "vis") rfl ?_
      refine ⟨_, _, rfl, ?_⟩
      refine wa_nil ?_
      refine ⟨lt_ rfl, ?_⟩
      exact ⟨_, rfl, Wk.refl _, rfl⟩
    obtain ⟨g18, h⟩ := Out.gd h
    refine ⟨(r16.map (fun (x15 : (Int × Bool)) => (x9.1, x15.1, x15.2))), _, rfl, rfl, g18, fun G14 hP1 hF1 => ?_⟩
    have hP : obA C_Origin o ["all_rulers", "size", "left"] [.sh ((eT (eRul C_Ruler)) rulers1), .sh (eI ((piece2).length : Int)), .mu (List.map (eP3 eI eI eB) (s7 ++ (r16.map (fun (x15 : (Int × Bool)) => (x9.1, x15.1, x15.2)))))] _ G14 := hP1
    have hF := hF.trans hF1
    exact wb_nil ⟨s7 ++ (r16.map (fun (x15 : (Int × Bool)) => (x9.1, x15.1, x15.2))), (.eq (.eq (.eq (.no (.no (.no (.no .nil))))))), ⟨_, hP, hF⟩, h⟩
  obtain ⟨fp, hP, hF⟩ := hg
  -- 110
  refine wb_cons (ws_if ?_)
  refine wt_cmp (nomark _) ?_
  refine we_fldM (ns := ["all_rulers", "size", "left"]) (fs := [.sh ((eT (eRul C_Ruler)) rulers1), .sh (eI ((piece2).length : Int)), .mu (List.map (eP3 eI eI eB) s8)]) cl_Origin.cls cl_Origin.n_left rfl ?_
  refine we_var 0 rfl (by walk_at "vis") rfl ?_
  refine ⟨_, _, rfl, hP, fun a19 ha19 _ => ?_⟩
  refine we_lst ?_
  refine wa_nil ?_
  refine ⟨by decide, ?_⟩
  refine ⟨_, _, .inr ⟨a19, rfl, ha19⟩, .inl rfl, ?_⟩
  refine opw_eqC (eqc_lst (eqc_trip eqc_int eqc_int eqc_bool)) hr.units s8 ([] : List ((Int × Int × Bool))) ?_
  refine ⟨_, rfl, ?_⟩
  refine ⟨fun hc => ?_, fun hc => ?_⟩
  · skip
    have h := (Out.iteb h).1 hc
    -- 111
    exact wb_cons (ws_raise1 xc_NoPlace rfl tk rfl (h _ fun b_ hb_ => hF.1 b_ (fun z => nomatch z) hb_))
  have h := (Out.iteb h).2 hc
  refine wb_nil ?_
  -- 112
  refine wb_cons (ws_fldN (ns := ["all_rulers", "size", "left"]) (fs := [.sh ((eT (eRul C_Ruler)) rulers1), .sh (eI ((piece2).length : Int)), .mu (List.map (eP3 eI eI eB) s8)]) cl_Origin.cls cl_Origin.n_accepted (by decide) ?_)
  refine we_lst ?_
  refine wa_nil ?_
  refine ⟨by decide, ?_⟩
  refine ⟨_, rfl, fun a21 ha21 => ?_⟩
  refine we_var 0 rfl (by walk_at "vis") rfl ?_
  refine ⟨_, _, rfl, rfl, hP, fun fp1 G20 hP1 hF1 => ?_⟩
  have hP : obA C_Origin o ["all_rulers", "size", "left", "accepted"] [.sh ((eT (eRul C_Ruler)) rulers1), .sh (eI ((piece2).length : Int)), .mu (List.map (eP3 eI eI eB) s8), .mu (List.map (eP3 eZ eI eI) ([] : List ((S × Int × Int))))] _ G20 := hP1
  have hF := hF.trans hF1
  change WB _ _ [.sh (.adr o), .sh ((eT (eRul C_Ruler)) rulers1), .sh ((eT eIB) piece2), .no, .no, .no, .no] _ _
  refine wb_frzF (f := "left") hP rfl rfl fun fp1 G22 hP1 hF1 => ?_
  have hP : obA C_Origin o ["all_rulers", "size", "left", "accepted"] [.sh ((eT (eRul C_Ruler)) rulers1), .sh (eI ((piece2).length : Int)), .sh ((eL (eP3 eI eI eB)) s8), .mu (List.map (eP3 eZ eI eI) ([] : List ((S × Int × Int))))] _ G22 := hP1
  have hF := hF.trans hF1
  exact wb_nil (h _ _ hP hF)
theorem ok_Origin_candidates {f : Addr} {fd : FuncData} (F : Fun K "candidates" "Origin.candidates" s_Origin_candidates f fd) (B : Bn mg) (cl_Origin : Clo_Origin K C_Origin) : FnOk P w K mg base (L2.CX P w) 3 f fd ["self"] (spD K (FCO cx C_Origin ns_Origin (σT := S_Origin) (A := Unit) (R := List ((Int × Int × Bool))) (fl_Origin C_Ruler) (fun _ => []) (fun v => .sh ((eT (eP3 eI eI eB)) v)) (fun s _ => .ok (m_Origin_candidates s)))) := by
  refine def_ok F sc_Origin_candidates (fun ds G post px h => ?_) (fun cdv A outer s H E F0 T hr ds GI post px h tk hp => ?_)
  · obtain ⟨_, _, _, _, rfl, _⟩ := h; rfl
  obtain ⟨self1, _, o, fpI, rfl, hP, h⟩ := h
  unfold m_Origin_candidates at h
  try dsimp only at h
  have nd := sc_Origin_candidates.nd
  change WB _ _ [.sh (.adr o)] _ _
  -- 116
  refine wb_cons (ws_ret ?_)
  refine we_t1 (x := "tuple") (id := "tuple") rfl B.tuple bt_tuple ?_
  refine we_fldA (ns := ns_Origin) (fs := fl_Origin C_Ruler self1) cl_Origin.cls cl_Origin.n_left rfl ?_
  refine we_var 0 rfl (by walk_at "vis") rfl ?_
  refine ⟨_, _, rfl, hP, ?_⟩
  refine ⟨_, .inl rfl, ?_⟩
  refine c_tuple ?_
  refine ⟨_, rfl, ?_⟩
  exact h
theorem ok_Origin_seen {f : Addr} {fd : FuncData} (F : Fun K "seen" "Origin.seen" s_Origin_seen f fd) (B : Bn mg) (cl_Origin : Clo_Origin K C_Origin) : FnOk P w K mg base (L2.CX P w) 3 f fd ["self"] (spD K (FCO cx C_Origin ns_Origin (σT := S_Origin) (A := Unit) (R := List ((S × Int × Int))) (fl_Origin C_Ruler) (fun _ => []) (fun v => .fr ((eL (eP3 eZ eI eI)) v)) (fun s _ => .ok (m_Origin_seen s)))) := by
  refine def_ok F sc_Origin_seen (fun ds G post px h => ?_) (fun cdv A outer s H E F0 T hr ds GI post px h tk hp => ?_)
  · obtain ⟨_, _, _, _, rfl, _⟩ := h; rfl
  obtain ⟨self1, _, o, fpI, rfl, hP, h⟩ := h
  unfold m_Origin_seen at h
  try dsimp only at h
  have nd := sc_Origin_seen.nd
  change WB _ _ [.sh (.adr o)] _ _
  -- 120
  refine wb_cons (ws_ret ?_)
  refine we_t1 (x := "list") (id := "list") rfl B.list bt_list ?_
  refine we_fldM (ns := ns_Origin) (fs := fl_Origin C_Ruler self1) cl_Origin.cls cl_Origin.n_accepted rfl ?_
  refine we_var 0 rfl (by walk_at "vis") rfl ?_
  refine ⟨_, _, rfl, hP, fun a2 ha2 _ => ?_⟩
  refine ⟨_, .inr ⟨a2, rfl, ha2⟩, ?_⟩
  refine c_list ?_
  refine ⟨_, rfl, ?_⟩
  exact h
theorem ok_Origin_validate_index {f : Addr} {fd : FuncData} (F : Fun K "validate_index" "Origin.validate_index" s_Origin_validate_index f fd) (B : Bn mg) (c_is_number_n : Cal P w K mg base "is_number" 3 ["value", "lowest", "highest"] (FM cx (A := IB × Int × Int) (R := Bool) (fun a => [eIB a.1, eI a.2.1, eI a.2.2]) (fun v => .sh (eB v)) (fun a => .ok (m_is_number_n a.1 a.2.1 a.2.2)))) (cl_Origin : Clo_Origin K C_Origin) (xc_InvalidNumber : XC K mg "InvalidNumber" (cx 6)) : FnOk P w K mg base (L2.CX P w) 5 f fd ["self", "index"] (spD K (FCO cx C_Origin ns_Origin (σT := S_Origin) (A := IB) (R := Unit) (fl_Origin C_Ruler) (fun a => [eIB a]) (fun v => .sh (eU v)) (fun s a => m_Origin_validate_index s a))) := by
  refine def_ok F sc_Origin_validate_index (fun ds G post px h => ?_) (fun cdv A outer s H E F0 T hr ds GI post px h tk hp => ?_)
  · obtain ⟨_, _, _, _, rfl, _⟩ := h; rfl
  obtain ⟨self1, index2, o, fpI, rfl, hP, h⟩ := h
  unfold m_Origin_validate_index at h
  try dsimp only at h
  have nd := sc_Origin_validate_index.nd
  change WB _ _ [.sh (.adr o), .sh (eIB index2)] _ _
  -- 123
  refine wb_cons (ws_if ?_)
  refine wt_not ?_
  refine wt_val (fun _ => rfl) ?_
  refine we_cal tk c_is_number_n hr rfl ?_
  refine wa_cons ?_
  refine we_var 1 rfl (by walk_at "vis") rfl ?_
  refine ⟨_, _, rfl, ?_⟩
  refine wa_cons ?_
  refine we_int ?_
  refine ⟨_, _, rfl, ?_⟩
  refine wa_cons ?_
  refine we_bin ?_
  refine we_fldA (ns := ns_Origin) (fs := fl_Origin C_Ruler self1) cl_Origin.cls cl_Origin.n_size rfl ?_
  refine we_var 0 rfl (by walk_at "vis") rfl ?_
  refine ⟨_, _, rfl, hP, ?_⟩
  refine we_int ?_
  refine ⟨_, _, .inl rfl, .inl rfl, ?_⟩
  refine opw_sub ?_
  refine ⟨_, _, rfl, ?_⟩
  refine wa_nil ?_
  refine ⟨(index2, (0 : Int), self1.size - (1 : Int)), rfl, ?_⟩
  refine ⟨_, rfl, ?_⟩
  refine ⟨fun hc => ?_, fun hc => ?_⟩
  · skip
    have h := (Out.iteb h).1 hc
    -- 124
    exact wb_cons (ws_raise1 xc_InvalidNumber rfl tk rfl h)
  have h := (Out.iteb h).2 hc
  refine wb_nil ?_
  exact wb_nil h
theorem ok_Origin_number_at {f : Addr} {fd : FuncData} (F : Fun K "number_at" "Origin.number_at" s_Origin_number_at f fd) (B : Bn mg) (cl_Ruler : Cl_Ruler K C_Ruler) (cl_Origin : Clo_Origin K C_Origin) (p_Ruler_marks : PropD P w K mg base C_Ruler "marks" 3 (FM cx (A := Rul) (R := List Int) (fun a => [(eRul C_Ruler) a]) (fun v => .sh ((eT eI) v)) (fun a => .ok (m_Ruler_marks a)))) : FnOk P w K mg base (L2.CX P w) 6 f fd ["self", "place", "index"] (spD K (FCO cx C_Origin ns_Origin (σT := S_Origin) (A := ((Int × Int × Bool)) × Int) (R := Int) (fl_Origin C_Ruler) (fun a => [(eP3 eI eI eB) a.1, eI a.2]) (fun v => .sh (eI v)) (fun s a => m_Origin_number_at s a.1 a.2))) := by
  refine def_ok F sc_Origin_number_at (fun ds G post px h => ?_) (fun cdv A outer s H E F0 T hr ds GI post px h tk hp => ?_)
  · obtain ⟨_, _, _, _, rfl, _⟩ := h; rfl
  obtain ⟨self1, ⟨place2, index3⟩, o, fpI, rfl, hP, h⟩ := h
  unfold m_Origin_number_at at h
  try dsimp only at h
  have nd := sc_Origin_number_at.nd
  obtain ⟨q_Ruler_0, sl_Ruler_0⟩ := cl_Ruler.s0
  obtain ⟨q_Ruler_1, sl_Ruler_1⟩ := cl_Ruler.s1
  change WB _ _ [.sh (.adr o), .sh ((eP3 eI eI eB) place2), .sh (eI index3), .no, .no, .no] _ _
  -- 127
  refine wb_cons (ws_asgG [3, 4, 5] ?_)
  refine we_var 1 rfl (by walk_at "vis") rfl ?_
  refine ⟨_, _, rfl, ?_⟩
  refine wg_trip 3 4 5 rfl nd rfl rfl rfl (by walk_at "vis") (by walk_at "vis") (by walk_at "vis") (by decide) (by decide) (by decide) (lt_ rfl) (lt_ rfl) (lt_ rfl) ?_
  refine Hold.h ?_
  refine wb_letH h (fun number4 => [.sh (.adr o), .sh ((eP3 eI eI eB) place2), .sh (eI index3), .sh (eI number4), .sh (eI place2.2.1), .sh (eB place2.2.2)]) rfl fun number4 h => ?_
  refine Hold.h ?_
  refine wb_letH h (fun first5 => [.sh (.adr o), .sh ((eP3 eI eI eB) place2), .sh (eI index3), .sh (eI number4), .sh (eI first5), .sh (eB place2.2.2)]) rfl fun first5 h => ?_
  refine Hold.h ?_
  refine wb_letH h (fun turned6 => [.sh (.adr o), .sh ((eP3 eI eI eB) place2), .sh (eI index3), .sh (eI number4), .sh (eI first5), .sh (eB turned6)]) rfl fun turned6 h => ?_
  -- 128
  refine wb_cons (ws_ret ?_)
  refine we_ix (fun _ _ => rfl) ?_
  refine we_prop cl_Ruler.cls p_Ruler_marks hr ?_
  refine we_ix (fun _ _ => rfl) ?_
  refine we_fldA (ns := ns_Origin) (fs := fl_Origin C_Ruler self1) cl_Origin.cls cl_Origin.n_all_rulers rfl ?_
  refine we_var 0 rfl (by walk_at "vis") rfl ?_
  refine ⟨_, _, rfl, hP, ?_⟩
  refine we_var 3 rfl (by walk_at "vis") rfl ?_
  obtain ⟨x7, hx7, h⟩ := Out.gt h
  refine ⟨_, _, .inl rfl, .inl rfl, ?_⟩
  refine t_ixT (f := (eRul C_Ruler)) hx7 ?_
  refine ⟨_, rfl, x7, rfl, ?_⟩
  refine we_bin ?_
  refine we_var 4 rfl (by walk_at "vis") rfl ?_
  refine we_ifP (en := eI) (va := (self1.size - (1 : Int)) - index3) (vb := index3) ?_
  refine wt_val (fun _ => rfl) ?_
  refine we_var 5 rfl (by walk_at "vis") rfl ?_
  refine ⟨_, rfl, ?_⟩
  refine ⟨fun _ => ?_, fun _ => ?_, ?_⟩
  · skip
    refine we_bin ?_
    refine we_bin ?_
    refine we_fldA (ns := ns_Origin) (fs := fl_Origin C_Ruler self1) cl_Origin.cls cl_Origin.n_size rfl ?_
    refine we_var 0 rfl (by walk_at "vis") rfl ?_
    refine ⟨_, _, rfl, hP, ?_⟩
    refine we_int ?_
    refine ⟨_, _, .inl rfl, .inl rfl, ?_⟩
    refine opw_sub ?_
    refine we_var 2 rfl (by walk_at "vis") rfl ?_
    refine ⟨_, _, .inl rfl, .inl rfl, ?_⟩
    refine opw_sub ?_
    exact ⟨rfl, rfl, rfl⟩
  · skip
    refine we_var 2 rfl (by walk_at "vis") rfl ?_
    exact ⟨rfl, rfl, rfl⟩
  refine ⟨_, _, .inl rfl, .inl rfl, ?_⟩
  refine opw_add ?_
  obtain ⟨x9, hx9, h⟩ := Out.gt h
  refine ⟨_, _, .inl rfl, .inl rfl, ?_⟩
  refine t_ixT (f := eI) hx9 ?_
  refine ⟨_, rfl, ?_⟩
  exact h
theorem ok_Origin_tell {f : Addr} {fd : FuncData} (F : Fun K "tell" "Origin.tell" s_Origin_tell f fd) (B : Bn mg) {t_SEE : Tok} (m_SEE : mg "SEE" = some (.str "see" t_SEE)) (cl_Origin : Clo_Origin K C_Origin) (d_Origin_number_at : MethD P w K mg base C_Origin "number_at" 6 ["self", "place", "index"] (FCO cx C_Origin ns_Origin (σT := S_Origin) (A := ((Int × Int × Bool)) × Int) (R := Int) (fl_Origin C_Ruler) (fun a => [(eP3 eI eI eB) a.1, eI a.2]) (fun v => .sh (eI v)) (fun s a => m_Origin_number_at s a.1 a.2))) (d_Origin_validate_index : MethD P w K mg base C_Origin "validate_index" 5 ["self", "index"] (FCO cx C_Origin ns_Origin (σT := S_Origin) (A := IB) (R := Unit) (fl_Origin C_Ruler) (fun a => [eIB a]) (fun v => .sh (eU v)) (fun s a => m_Origin_validate_index s a))) (xc_NoPlace : XC K mg "NoPlace" (cx 19)) : FnOk P w K mg base (L2.CX P w) 8 f fd ["self", "word", "index", "number"] (spD K (FMO cx C_Origin ns_Origin (σT := S_Origin) (A := S × IB × Int) (R := Int) (fl_Origin C_Ruler) (fun a => [eZ a.1, eIB a.2.1, eI a.2.2]) (fun v => .sh (eI v)) (fun s a => m_Origin_tell s a.1 a.2.1 a.2.2))) := by
  refine def_ok F sc_Origin_tell (fun ds G post px h => ?_) (fun cdv A outer s H E F0 T hr ds GI post px h tk hp => ?_)
  · obtain ⟨_, _, _, _, rfl, _⟩ := h; rfl
  obtain ⟨self1, ⟨word2, index3, number4⟩, o, fpI, rfl, hP, h⟩ := h
  have hF := Frm.refl fpI GI
  unfold m_Origin_tell at h
  try dsimp only at h
  have nd := sc_Origin_tell.nd
  change WB _ _ [.sh (.adr o), .sh (eZ word2), .sh (eIB index3), .sh (eI number4), .no, .no] _ _
  -- 131
  refine wb_cons (ws_expr ?_)
  refine we_methC tk cl_Origin.cls d_Origin_validate_index hr rfl ?_
  refine we_var 0 rfl (by walk_at "vis") rfl ?_
  refine ⟨self1, _, _, rfl, hP, ?_⟩
  refine wa_cons ?_
  refine we_var 2 rfl (by walk_at "vis") rfl ?_
  refine ⟨_, _, rfl, ?_⟩
  refine wa_nil ?_
  refine ⟨index3, _, rfl, hP, (Out.sb h).imp (fun r5 h => ?_) (fun _ he => he _ _ hP hF)⟩
  -- 132
  refine wb_setLcQ [("place", 5)] 4 rfl nd rfl rfl (by rfl) (blkOk_by (by rfl)) (lcS_preP (γ := (Int × S_Origin)) [("place", 5)] [.sh (.adr o), .sh (eZ word2), .sh (eIB index3), .sh (eI number4), .no, .no] (fun _ : Unit => GI) (en := (eP3 eI eI eB)) (eP3 eI eI eB) ?_)
  refine ti_lst (f := (eP3 eI eI eB)) ?_
  refine we_fldA (ns := ns_Origin) (fs := fl_Origin C_Ruler self1) cl_Origin.cls cl_Origin.n_left rfl ?_
  refine we_var 0 rfl (by walk_at "vis") rfl ?_
  refine ⟨_, _, rfl, hP, ?_⟩
  refine ⟨self1.left, _, rfl, fun hl7 => ?_⟩
  refine ⟨self1.left, (), _, _, _, _, rfl, hl7, Wk.refl _, rfl, h, fun s8 x6 Q' h => ?_, fun l9 h => ?_⟩
  · skip
    rintro Y ⟨s1, H1, C1, cl, fp, rfl⟩
    refine wg_name 5 nd rfl (by walk_at "vis") (by decide) (lt_ rfl) ?_
    rintro Y ⟨s1, H1, C1, cl, fp, rfl⟩
    refine wt_cmp (nomark _) ?_
    refine we_cmp (nomark _) ?_
    refine we_methC (BlkX.tk ⟨_, _, _, _, _, rfl⟩) cl_Origin.cls d_Origin_number_at hr rfl ?_
    refine we_var 0 rfl (by walk_at "vis") rfl ?_
    refine ⟨self1, _, _, rfl, hP, ?_⟩
    refine wa_cons ?_
    refine we_var 5 rfl (by walk_at "vis") rfl ?_
    refine ⟨_, _, rfl, ?_⟩
    refine wa_cons ?_
    refine we_num ?_
    refine we_var 2 rfl (by walk_at "vis") rfl ?_
    obtain ⟨n10, hn10, h⟩ := Out.gt h
    refine ⟨index3, n10, rfl, hn10, ?_⟩
    refine ⟨_, _, rfl, ?_⟩
    refine wa_nil ?_
    refine ⟨(x6, n10), _, rfl, hP, (Out.nx (Out.sb h)).imp (fun r11 h => ?_) (fun _ he => he)⟩
    refine we_var 3 rfl (by walk_at "vis") rfl ?_
    refine ⟨_, _, .inl rfl, .inl rfl, ?_⟩
    refine opw_eqI ?_
    refine we_cmp (nomark _) ?_
    refine we_var 1 rfl (by walk_at "vis") rfl ?_
    refine we_globS rfl m_SEE ?_
    refine ⟨_, _, .inl rfl, .inl rfl, ?_⟩
    refine opw_eqC eqc_str hr.units word2 z_see ?_
    refine ⟨_, _, .inl rfl, .inl rfl, ?_⟩
    refine opw_eqC eqc_bool hr.units (decide (r11 = number4)) (decide (word2 = z_see)) ?_
    refine ⟨_, rfl, ?_⟩
    refine ⟨fun hc => ?_, fun hc => ?_⟩
    · skip
      have h := (Out.iteb h).1 hc
      rintro Y ⟨s1, H1, C1, cl, fp, rfl⟩
      refine we_var 5 rfl (by walk_at "vis") rfl ?_
      exact ⟨x6, (), _, rfl, Wk.refl _, rfl, h⟩
    have h := (Out.iteb h).2 hc
    exact ⟨(), Wk.refl _, rfl, h⟩
  refine ⟨lt_ rfl, _, rfl, ?_⟩
  change WB _ _ [.sh (.adr o), .sh (eZ word2), .sh (eIB index3), .sh (eI number4), .own ((eL (eP3 eI eI eB)) l9.1), .no] _ _
  -- 133
  refine wb_cons (ws_if ?_)
  refine wt_cmp (nomark _) ?_
  refine we_var 4 rfl (by walk_at "vis") rfl ?_
  refine we_lst ?_
  refine wa_nil ?_
  refine ⟨by decide, ?_⟩
  refine ⟨_, _, .inl rfl, .inl rfl, ?_⟩
  refine opw_eqC (eqc_lst (eqc_trip eqc_int eqc_int eqc_bool)) hr.units l9.1 ([] : List ((Int × Int × Bool))) ?_
  refine ⟨_, rfl, ?_⟩
  refine ⟨fun hc => ?_, fun hc => ?_⟩
  · skip
    have h := (Out.iteb h).1 hc
    -- 134
    exact wb_cons (ws_raise1 xc_NoPlace rfl tk rfl (h _ _ hP hF))
  have h := (Out.iteb h).2 hc
  refine wb_nil ?_
  -- 135
  refine wb_cons (ws_fldA (ns := ns_Origin) (fs := fl_Origin C_Ruler self1) cl_Origin.cls cl_Origin.n_left (by decide) ?_)
  refine we_var 4 rfl (by walk_at "vis") rfl ?_
  refine ⟨_, _, rfl, ?_⟩
  refine we_var 0 rfl (by walk_at "vis") rfl ?_
  refine ⟨_, _, rfl, hP, fun fp1 G12 hP1 hF1 => ?_⟩
  have hP : obA C_Origin o ["all_rulers", "size", "left", "accepted"] [.sh ((eT (eRul C_Ruler)) self1.all_rulers), .sh (eI self1.size), .sh ((eL (eP3 eI eI eB)) l9.1), .mu (List.map (eP3 eZ eI eI) self1.accepted)] _ G12 := hP1
  have hF := hF.trans hF1
  change WB _ _ [.sh (.adr o), .sh (eZ word2), .sh (eIB index3), .sh (eI number4), .sh ((eL (eP3 eI eI eB)) l9.1), .no] _ _
  -- 136
  refine wb_cons (ws_expr ?_)
  refine we_appF (ns := ["all_rulers", "size", "left", "accepted"]) (fs := [.sh ((eT (eRul C_Ruler)) self1.all_rulers), .sh (eI self1.size), .sh ((eL (eP3 eI eI eB)) l9.1), .mu (List.map (eP3 eZ eI eI) self1.accepted)]) (fe := (eP3 eZ eI eI)) (xs := self1.accepted) cl_Origin.cls cl_Origin.n_accepted rfl (by intro _; rfl) ?_
  refine we_var 0 rfl (by walk_at "vis") rfl ?_
  refine ⟨_, _, rfl, hP, ?_⟩
  refine we_tup ?_
  refine wa_cons ?_
  refine we_var 1 rfl (by walk_at "vis") rfl ?_
  refine ⟨_, _, rfl, ?_⟩
  refine wa_cons ?_
  refine we_num ?_
  refine we_var 2 rfl (by walk_at "vis") rfl ?_
  obtain ⟨n14, hn14, h⟩ := Out.gt h
  refine ⟨index3, n14, rfl, hn14, ?_⟩
  refine ⟨_, _, rfl, ?_⟩
  refine wa_cons ?_
  refine we_var 3 rfl (by walk_at "vis") rfl ?_
  refine ⟨_, _, rfl, ?_⟩
  refine wa_nil ?_
  refine ⟨lt_ rfl, ?_⟩
  obtain ⟨g15, h⟩ := Out.gd h
  refine ⟨(word2, n14, number4), _, rfl, rfl, g15, fun G13 hP1 hF1 => ?_⟩
  have hP : obA C_Origin o ["all_rulers", "size", "left", "accepted"] [.sh ((eT (eRul C_Ruler)) self1.all_rulers), .sh (eI self1.size), .sh ((eL (eP3 eI eI eB)) l9.1), .mu (List.map (eP3 eZ eI eI) (self1.accepted ++ [(word2, n14, number4)]))] _ G13 := hP1
  have hF := hF.trans hF1
  -- 137
  refine wb_cons (ws_ret ?_)
  refine we_b1 (x := "len") (id := "len") rfl B.len bt_len ?_
  refine we_var 4 rfl (by walk_at "vis") rfl ?_
  refine ⟨_, .inl rfl, ?_⟩
  refine t_len (f := (eP3 eI eI eB)) l9.1 ?_
  refine ⟨_, rfl, ?_⟩
  exact h _ _ hP hF
theorem ok_Origin_see {f : Addr} {fd : FuncData} (F : Fun K "see" "Origin.see" s_Origin_see f fd) (B : Bn mg) {t_SEE : Tok} (m_SEE : mg "SEE" = some (.str "see" t_SEE)) (cl_Origin : Clo_Origin K C_Origin) (d_Origin_tell : MethD P w K mg base C_Origin "tell" 8 ["self", "word", "index", "number"] (FMO cx C_Origin ns_Origin (σT := S_Origin) (A := S × IB × Int) (R := Int) (fl_Origin C_Ruler) (fun a => [eZ a.1, eIB a.2.1, eI a.2.2]) (fun v => .sh (eI v)) (fun s a => m_Origin_tell s a.1 a.2.1 a.2.2))) : FnOk P w K mg base (L2.CX P w) 10 f fd ["self", "index", "number"] (spD K (FMO cx C_Origin ns_Origin (σT := S_Origin) (A := IB × Int) (R := Int) (fl_Origin C_Ruler) (fun a => [eIB a.1, eI a.2]) (fun v => .sh (eI v)) (fun s a => m_Origin_see s a.1 a.2))) := by
  refine def_ok F sc_Origin_see (fun ds G post px h => ?_) (fun cdv A outer s H E F0 T hr ds GI post px h tk hp => ?_)
  · obtain ⟨_, _, _, _, rfl, _⟩ := h; rfl
  obtain ⟨self1, ⟨index2, number3⟩, o, fpI, rfl, hP, h⟩ := h
  have hF := Frm.refl fpI GI
  unfold m_Origin_see at h
  try dsimp only at h
  have nd := sc_Origin_see.nd
  change WB _ _ [.sh (.adr o), .sh (eIB index2), .sh (eI number3)] _ _
  -- 140
  refine wb_cons (ws_ret ?_)
  refine we_methM tk cl_Origin.cls d_Origin_tell hr rfl ?_
  refine we_var 0 rfl (by walk_at "vis") rfl ?_
  refine ⟨self1, _, _, rfl, hP, ?_⟩
  refine wa_cons ?_
  refine we_globS rfl m_SEE ?_
  refine ⟨_, _, rfl, ?_⟩
  refine wa_cons ?_
  refine we_var 1 rfl (by walk_at "vis") rfl ?_
  refine ⟨_, _, rfl, ?_⟩
  refine wa_cons ?_
  refine we_var 2 rfl (by walk_at "vis") rfl ?_
  refine ⟨_, _, rfl, ?_⟩
  refine wa_nil ?_
  refine ⟨(z_see, index2, number3), _, rfl, hP, (Out.sb h).imp (fun r4 h fp1 G5 hP1 hF1 => ?_) (fun _ he fp' G' hP2 hF2 => he _ _ hP2 (hF.trans hF2))⟩
  have hP : obA C_Origin o ns_Origin (fl_Origin C_Ruler r4.2) _ G5 := hP1
  have hF := hF.trans hF1
  refine ⟨_, rfl, ?_⟩
  exact h _ _ hP hF
theorem ok_Origin_miss {f : Addr} {fd : FuncData} (F : Fun K "miss" "Origin.miss" s_Origin_miss f fd) (B : Bn mg) {t_MISS : Tok} (m_MISS : mg "MISS" = some (.str "miss" t_MISS)) (cl_Origin : Clo_Origin K C_Origin) (d_Origin_tell : MethD P w K mg base C_Origin "tell" 8 ["self", "word", "index", "number"] (FMO cx C_Origin ns_Origin (σT := S_Origin) (A := S × IB × Int) (R := Int) (fl_Origin C_Ruler) (fun a => [eZ a.1, eIB a.2.1, eI a.2.2]) (fun v => .sh (eI v)) (fun s a => m_Origin_tell s a.1 a.2.1 a.2.2))) : FnOk P w K mg base (L2.CX P w) 10 f fd ["self", "index", "number"] (spD K (FMO cx C_Origin ns_Origin (σT := S_Origin) (A := IB × Int) (R := Int) (fl_Origin C_Ruler) (fun a => [eIB a.1, eI a.2]) (fun v => .sh (eI v)) (fun s a => m_Origin_miss s a.1 a.2))) := by
  refine def_ok F sc_Origin_miss (fun ds G post px h => ?_) (fun cdv A outer s H E F0 T hr ds GI post px h tk hp => ?_)
  · obtain ⟨_, _, _, _, rfl, _⟩ := h; rfl
  obtain ⟨self1, ⟨index2, number3⟩, o, fpI, rfl, hP, h⟩ := h
  have hF := Frm.refl fpI GI
  unfold m_Origin_miss at h
  try dsimp only at h
  have nd := sc_Origin_miss.nd
  change WB _ _ [.sh (.adr o), .sh (eIB index2), .sh (eI number3)] _ _
  -- 143
  refine wb_cons (ws_ret ?_)
  refine we_methM tk cl_Origin.cls d_Origin_tell hr rfl ?_
  refine we_var 0 rfl (by walk_at "vis") rfl ?_
  refine ⟨self1, _, _, rfl, hP, ?_⟩
  refine wa_cons ?_
  refine we_globS rfl m_MISS ?_
  refine ⟨_, _, rfl, ?_⟩
  refine wa_cons ?_
  refine we_var 1 rfl (by walk_at "vis") rfl ?_
  refine ⟨_, _, rfl, ?_⟩
  refine wa_cons ?_
  refine we_var 2 rfl (by walk_at "vis") rfl ?_
  refine ⟨_, _, rfl, ?_⟩
  refine wa_nil ?_
  refine ⟨(z_miss, index2, number3), _, rfl, hP, (Out.sb h).imp (fun r4 h fp1 G5 hP1 hF1 => ?_) (fun _ he fp' G' hP2 hF2 => he _ _ hP2 (hF.trans hF2))⟩
  have hP : obA C_Origin o ns_Origin (fl_Origin C_Ruler r4.2) _ G5 := hP1
  have hF := hF.trans hF1
  refine ⟨_, rfl, ?_⟩
  exact h _ _ hP hF
theorem ok_Origin_numbers {f : Addr} {fd : FuncData} (F : Fun K "numbers" "Origin.numbers" s_Origin_numbers f fd) (B : Bn mg) (cl_Origin : Clo_Origin K C_Origin) (d_Origin_number_at : MethD P w K mg base C_Origin "number_at" 6 ["self", "place", "index"] (FCO cx C_Origin ns_Origin (σT := S_Origin) (A := ((Int × Int × Bool)) × Int) (R := Int) (fl_Origin C_Ruler) (fun a => [(eP3 eI eI eB) a.1, eI a.2]) (fun v => .sh (eI v)) (fun s a => m_Origin_number_at s a.1 a.2))) (d_Origin_validate_index : MethD P w K mg base C_Origin "validate_index" 5 ["self", "index"] (FCO cx C_Origin ns_Origin (σT := S_Origin) (A := IB) (R := Unit) (fl_Origin C_Ruler) (fun a => [eIB a]) (fun v => .sh (eU v)) (fun s a => m_Origin_validate_index s a))) : FnOk P w K mg base (L2.CX P w) 8 f fd ["self", "index"] (spD K (FCO cx C_Origin ns_Origin (σT := S_Origin) (A := IB) (R := List Int) (fl_Origin C_Ruler) (fun a => [eIB a]) (fun v => .fr ((eL eI) v)) (fun s a => m_Origin_numbers s a))) := by
  refine def_ok F sc_Origin_numbers (fun ds G post px h => ?_) (fun cdv A outer s H E F0 T hr ds GI post px h tk hp => ?_)
  · obtain ⟨_, _, _, _, rfl, _⟩ := h; rfl
  obtain ⟨self1, index2, o, fpI, rfl, hP, h⟩ := h
  unfold m_Origin_numbers at h
  try dsimp only at h
  have nd := sc_Origin_numbers.nd
  change WB _ _ [.sh (.adr o), .sh (eIB index2), .no] _ _
  -- 146
  refine wb_cons (ws_expr ?_)
  refine we_methC tk cl_Origin.cls d_Origin_validate_index hr rfl ?_
  refine we_var 0 rfl (by walk_at "vis") rfl ?_
  refine ⟨self1, _, _, rfl, hP, ?_⟩
  refine wa_cons ?_
  refine we_var 1 rfl (by walk_at "vis") rfl ?_
  refine ⟨_, _, rfl, ?_⟩
  refine wa_nil ?_
  refine ⟨index2, _, rfl, hP, (Out.sb h).imp (fun r3 h => ?_) (fun _ he => he)⟩
  -- 147
  refine wb_cons (ws_ret ?_)
  refine we_sortU rfl rfl B.sorted rfl B.set ?_
  refine we_lcQ [("place", 2)] rfl nd (blkOk_by (by rfl)) (lcS_preP (γ := List Int) [("place", 2)] [.sh (.adr o), .sh (eIB index2), .no] (fun _ : Unit => GI) (en := (eP3 eI eI eB)) eI ?_)
  refine ti_lst (f := (eP3 eI eI eB)) ?_
  refine we_fldA (ns := ns_Origin) (fs := fl_Origin C_Ruler self1) cl_Origin.cls cl_Origin.n_left rfl ?_
  refine we_var 0 rfl (by walk_at "vis") rfl ?_
  refine ⟨_, _, rfl, hP, ?_⟩
  refine ⟨self1.left, _, rfl, fun hl5 => ?_⟩
  refine ⟨self1.left, (), _, _, _, _, rfl, hl5, Wk.refl _, rfl, h, fun s6 x4 Q' h => ?_, fun l7 h => ?_⟩
  · skip
    rintro Y ⟨s1, H1, C1, cl, fp, rfl⟩
    refine wg_name 2 nd rfl (by walk_at "vis") (by decide) (lt_ rfl) ?_
    rintro Y ⟨s1, H1, C1, cl, fp, rfl⟩
    refine we_methC (BlkX.tk ⟨_, _, _, _, _, rfl⟩) cl_Origin.cls d_Origin_number_at hr rfl ?_
    refine we_var 0 rfl (by walk_at "vis") rfl ?_
    refine ⟨self1, _, _, rfl, hP, ?_⟩
    refine wa_cons ?_
    refine we_var 2 rfl (by walk_at "vis") rfl ?_
    refine ⟨_, _, rfl, ?_⟩
    refine wa_cons ?_
    refine we_num ?_
    refine we_var 1 rfl (by walk_at "vis") rfl ?_
    obtain ⟨n8, hn8, h⟩ := Out.gt h
    refine ⟨index2, n8, rfl, hn8, ?_⟩
    refine ⟨_, _, rfl, ?_⟩
    refine wa_nil ?_
    refine ⟨(x4, n8), _, rfl, hP, (Out.nx (Out.sb h)).imp (fun r9 h => ?_) (fun _ he => he)⟩
    exact ⟨r9, (), _, rfl, Wk.refl _, rfl, h⟩
  obtain ⟨g10, h⟩ := Out.gd h
  refine ⟨l7.1, .inl rfl, g10, ?_⟩
  refine ⟨_, rfl, ?_⟩
  exact h
theorem ok_Origin_telling {f : Addr} {fd : FuncData} (F : Fun K "telling" "Origin.telling" s_Origin_telling f fd) (B : Bn mg) (cl_Origin : Clo_Origin K C_Origin) (d_Origin_number_at : MethD P w K mg base C_Origin "number_at" 6 ["self", "place", "index"] (FCO cx C_Origin ns_Origin (σT := S_Origin) (A := ((Int × Int × Bool)) × Int) (R := Int) (fl_Origin C_Ruler) (fun a => [(eP3 eI eI eB) a.1, eI a.2]) (fun v => .sh (eI v)) (fun s a => m_Origin_number_at s a.1 a.2))) : FnOk P w K mg base (L2.CX P w) 8 f fd ["self"] (spD K (FCO cx C_Origin ns_Origin (σT := S_Origin) (A := Unit) (R := Int) (fl_Origin C_Ruler) (fun _ => []) (fun v => .sh (eI v)) (fun s _ => m_Origin_telling s))) := by
  refine def_ok F sc_Origin_telling (fun ds G post px h => ?_) (fun cdv A outer s H E F0 T hr ds GI post px h tk hp => ?_)
  · obtain ⟨_, _, _, _, rfl, _⟩ := h; rfl
  obtain ⟨self1, _, o, fpI, rfl, hP, h⟩ := h
  unfold m_Origin_telling at h
  try dsimp only at h
  have nd := sc_Origin_telling.nd
  change WB _ _ [.sh (.adr o), .no, .no, .no, .no, .no] _ _
  -- 150
  refine wb_cons ?_
  refine Hold.h ?_
  refine ws_setH 1 nd rfl (by walk_at "vis") ?_
  refine we_lst ?_
  refine wa_nil ?_
  refine ⟨by decide, ?_⟩
  refine ⟨lt_ rfl, _, rfl, ?_⟩
  refine Hold.h ?_
  refine wb_letH h (fun worst2 => [.sh (.adr o), .own ((eL eI) worst2), .no, .no, .no, .no]) rfl fun worst2 h => ?_
  -- 151
  refine Hold.h ?_
  refine wb_forOH (β := Int) [2] (σT := List Int) (fun s3 => [.sh (.adr o), .own ((eL eI) s3), .no, .no, .no, .no]) (fun s3 => GI) eI hp rfl ?_
  refine wi_rng1 rfl B.range ?_
  refine we_fldA (ns := ns_Origin) (fs := fl_Origin C_Ruler self1) cl_Origin.cls cl_Origin.n_size rfl ?_
  refine we_var 0 rfl (by walk_at "vis") rfl ?_
  refine ⟨_, _, rfl, hP, ?_⟩
  obtain ⟨g6, h⟩ := Out.gd h
  refine ⟨self1.size, rfl, g6, ?_⟩
  refine ⟨(rgI 0 self1.size), worst2, _, _, _, _, rfl, (.eq (.eq (.no (.no (.no (.no .nil)))))), rfl, h, fun s3 x5 Q' h => ?_, fun s4 h => ?_⟩
  · skip
    refine wg_name 2 nd rfl (by walk_at "vis") (by decide) (lt_ rfl) ?_
    change WB _ _ [.sh (.adr o), .own ((eL eI) s3), .sh (eI x5), .no, .no, .no] _ _
    -- 152
    refine wb_cons ?_
    refine Hold.h ?_
    refine ws_setH 3 nd rfl (by walk_at "vis") ?_
    refine we_lcQ [("place", 4)] rfl nd (blkOk_by (by rfl)) (lcS_preP (γ := (List Int)) [("place", 4)] [.sh (.adr o), .own ((eL eI) s3), .sh (eI x5), .no, .no, .no] (fun _ : Unit => GI) (en := (eP3 eI eI eB)) eI ?_)
    refine ti_lst (f := (eP3 eI eI eB)) ?_
    refine we_fldA (ns := ns_Origin) (fs := fl_Origin C_Ruler self1) cl_Origin.cls cl_Origin.n_left rfl ?_
    refine we_var 0 rfl (by walk_at "vis") rfl ?_
    refine ⟨_, _, rfl, hP, ?_⟩
    refine ⟨self1.left, _, rfl, fun hl8 => ?_⟩
    refine ⟨self1.left, (), _, _, _, _, rfl, hl8, Wk.refl _, rfl, h, fun s9 x7 Q' h => ?_, fun l10 h => ?_⟩
    · skip
      rintro Y ⟨s1, H1, C1, cl, fp, rfl⟩
      refine wg_name 4 nd rfl (by walk_at "vis") (by decide) (lt_ rfl) ?_
      rintro Y ⟨s1, H1, C1, cl, fp, rfl⟩
      refine we_methC (BlkX.tk ⟨_, _, _, _, _, rfl⟩) cl_Origin.cls d_Origin_number_at hr rfl ?_
      refine we_var 0 rfl (by walk_at "vis") rfl ?_
      refine ⟨self1, _, _, rfl, hP, ?_⟩
      refine wa_cons ?_
      refine we_var 4 rfl (by walk_at "vis") rfl ?_
      refine ⟨_, _, rfl, ?_⟩
      refine wa_cons ?_
      refine we_var 2 rfl (by walk_at "vis") rfl ?_
      refine ⟨_, _, rfl, ?_⟩
      refine wa_nil ?_
      refine ⟨(x7, x5), _, rfl, hP, (Out.nx (Out.sb h)).imp (fun r11 h => ?_) (fun _ he => he)⟩
      exact ⟨r11, (), _, rfl, Wk.refl _, rfl, h⟩
    refine ⟨lt_ rfl, _, rfl, ?_⟩
    change WB _ _ [.sh (.adr o), .own ((eL eI) s3), .sh (eI x5), .own ((eL eI) l10.1), .no, .no] _ _
    -- 153
    refine wb_cons (ws_expr ?_)
    refine we_appendT (f := eI) ?_
    refine we_var 1 rfl (by walk_at "vis") rfl ?_
    refine ⟨_, s3, rfl, rfl, ?_⟩
    refine we_b1 (x := "max") (id := "max") rfl B.max bt_max ?_
    refine we_lcQ [("number", 5)] rfl nd (blkOk_by (by rfl)) (lc0_pre [("number", 5)] [.sh (.adr o), .own ((eL eI) s3), .sh (eI x5), .sh ((eL eI) l10.1), .no, .no] (en := eI) eI (fun (x13 : Int) => ((l10.1).count x13 : Int)) ?_)
    refine ti_lst (f := eI) ?_
    refine we_var 3 rfl (by walk_at "vis") rfl ?_
    refine ⟨l10.1, _, rfl, fun hl14 => ?_⟩
    refine ⟨l10.1, rfl, hl14, Wk.refl _, fun x13 => ?_, ?_⟩
    · skip
      rintro Y ⟨s1, H1, C1, cl, fp, rfl⟩
      refine wg_name 5 nd rfl (by walk_at "vis") (by decide) (lt_ rfl) ?_
      rintro Y ⟨s1, H1, C1, cl, fp, rfl⟩
      refine we_count ?_
      refine we_var 3 rfl (by walk_at "vis") rfl ?_
      refine ⟨_, .inl rfl, ?_⟩
      refine we_var 5 rfl (by walk_at "vis") rfl ?_
      refine ⟨_, _, .inl rfl, .inl rfl, ?_⟩
      refine mw_count (ns := l10.1) (k := x13) ?_
      exact ⟨_, rfl, Wk.refl _, rfl⟩
    refine ⟨_, .inl rfl, ?_⟩
    obtain ⟨x15, hx15, h⟩ := Out.gt h
    refine t_max rfl hx15 ?_
    obtain ⟨g16, h⟩ := Out.gd h
    refine ⟨x15, _, s3, rfl, rfl, g16, ?_⟩
    refine Hold.h ?_
    refine wb_letH h (fun worst17 => [.sh (.adr o), .own ((eL eI) worst17), .sh (eI x5), .sh ((eL eI) l10.1), .no, .no]) rfl fun worst17 h => ?_
    exact wb_nil ⟨worst17, (.eq (.eq (.no (.no (.no (.no .nil)))))), rfl, h⟩
  -- 154
  refine wb_cons (ws_ret ?_)
  refine we_index ?_
  refine we_var 1 rfl (by walk_at "vis") rfl ?_
  refine ⟨_, .inl rfl, ?_⟩
  refine we_b1 (x := "min") (id := "min") rfl B.min bt_min ?_
  refine we_var 1 rfl (by walk_at "vis") rfl ?_
  refine ⟨_, .inl rfl, ?_⟩
  obtain ⟨x18, hx18, h⟩ := Out.gt h
  refine t_min rfl hx18 ?_
  refine ⟨_, _, .inl rfl, .inl rfl, ?_⟩
  obtain ⟨x19, hx19, h⟩ := Out.gt h
  refine t_index hx19 ?_
  refine ⟨_, rfl, ?_⟩
  exact h
theorem ok_law_fail {f : Addr} {fd : FuncData} (F : Fun K "_law_fail" "_law_fail" s_law_fail f fd) (B : Bn mg) (mgf : mg "_law_fail" = some (.ref f)) (bd : L2.Binds K fd ["_law_work"] []) (ec_InvalidNumber : ExcC K (cx 6)) (ec_InvalidPiece : ExcC K (cx 8)) (ec_InvalidRuler : ExcC K (cx 1)) (ec_NoPlace : ExcC K (cx 19)) (em_InvalidNumber : PySem.W.exmOne K (.ref (cx 6)) (.ref (cx 0)) = some true) (em_InvalidPiece : PySem.W.exmOne K (.ref (cx 8)) (.ref (cx 0)) = some true) (em_InvalidRuler : PySem.W.exmOne K (.ref (cx 1)) (.ref (cx 0)) = some true) (em_NoPlace : PySem.W.exmOne K (.ref (cx 19)) (.ref (cx 0)) = some true) (kk_InvalidNumber_InvalidNumber : PySem.W.kitOne K (.ref (cx 6)) (.ref (cx 6)) = some true) (kk_InvalidNumber_InvalidPiece : PySem.W.kitOne K (.ref (cx 6)) (.ref (cx 8)) = some false) (kk_InvalidNumber_NoPlace : PySem.W.kitOne K (.ref (cx 6)) (.ref (cx 19)) = some false) (kk_InvalidPiece_InvalidNumber : PySem.W.kitOne K (.ref (cx 8)) (.ref (cx 6)) = some false) (kk_InvalidPiece_InvalidPiece : PySem.W.kitOne K (.ref (cx 8)) (.ref (cx 8)) = some true) (kk_InvalidPiece_NoPlace : PySem.W.kitOne K (.ref (cx 8)) (.ref (cx 19)) = some false) (kk_InvalidRuler_InvalidNumber : PySem.W.kitOne K (.ref (cx 1)) (.ref (cx 6)) = some false) (kk_InvalidRuler_InvalidPiece : PySem.W.kitOne K (.ref (cx 1)) (.ref (cx 8)) = some false) (kk_InvalidRuler_NoPlace : PySem.W.kitOne K (.ref (cx 1)) (.ref (cx 19)) = some false) (kk_NoPlace_InvalidNumber : PySem.W.kitOne K (.ref (cx 19)) (.ref (cx 6)) = some false) (kk_NoPlace_InvalidPiece : PySem.W.kitOne K (.ref (cx 19)) (.ref (cx 8)) = some false) (kk_NoPlace_NoPlace : PySem.W.kitOne K (.ref (cx 19)) (.ref (cx 19)) = some true) (xm_InvalidNumber : mg "InvalidNumber" = some (.ref (cx 6))) (xm_InvalidPiece : mg "InvalidPiece" = some (.ref (cx 8))) (xm_NoPlace : mg "NoPlace" = some (.ref (cx 19))) (xm_RackError : mg "RackError" = some (.ref (cx 0))) (xg_ValueError : mg "ValueError" = none) : LErr P w K mg base "_law_fail" none (hdOf cx eAt hd_law_fail) := by
  refine ⟨⟨f, s_law_fail, fd, "_law_work", ["_law_work", "_law_e", "_law_kinds"], F, mgf, bd, sc_law_fail, rfl, by walk_at "vis", by decide, by decide, fun cdg => ?_⟩⟩
  have nd := sc_law_fail.nd
  refine give_fail (i := 1) rfl nd rfl rfl xm_RackError (by decide) rfl (fun x p ⟨xm, v, e1, hv, hp⟩ => ?_) (fun A outer s H x0 p ad G Y hh hY => ?_)
  · obtain ⟨n, fs⟩ := xm; subst e1; unfold hd_law_fail at hv; dsimp only at hv
    by_cases hInvalidRuler : n = 1
    · subst hInvalidRuler; exact em_InvalidRuler
    rw [if_neg hInvalidRuler] at hv
    by_cases hInvalidNumber : n = 6
    · subst hInvalidNumber; exact em_InvalidNumber
    rw [if_neg hInvalidNumber] at hv
    by_cases hInvalidPiece : n = 8
    · subst hInvalidPiece; exact em_InvalidPiece
    rw [if_neg hInvalidPiece] at hv
    by_cases hNoPlace : n = 19
    · subst hNoPlace; exact em_NoPlace
    rw [if_neg hNoPlace] at hv
    cases hv
  · obtain ⟨⟨n, fs⟩, v, rfl, hv, hp⟩ := hh; unfold hd_law_fail at hv; dsimp only at hv
    by_cases hInvalidRuler : n = 1
    · subst hInvalidRuler; rw [if_pos rfl] at hv; cases hv; obtain ⟨oe, pn, d, F1, T1, hr, hz, hf, ex, rfl⟩ := hY
      have h : (hs_law_fail_InvalidRuler).sat (fun v => p (eAt v)) (fun _ => False) := by rw [hs_law_fail_InvalidRuler_eq]; exact hp
      unfold hs_law_fail_InvalidRuler at h
      try dsimp only at h
      refine wb_env [.no, .sh (.adr ad), .no] rfl ?_
      -- 185
      refine wb_cons (ws_set 2 nd rfl (by walk_at "vis") ?_)
      refine we_lst ?_
      refine wa_cons ?_
      refine we_isX (x0 := _) ec_InvalidRuler hz hf ex rfl B.isinstance bt_isinstance rfl xm_InvalidNumber ?_
      refine we_var 1 rfl (by walk_at "vis") rfl ?_
      refine ⟨_, rfl, kk_InvalidRuler_InvalidNumber, ?_⟩
      refine ⟨_, _, rfl, ?_⟩
      refine wa_cons ?_
      refine we_isX (x0 := _) ec_InvalidRuler hz hf ex rfl B.isinstance bt_isinstance rfl xm_InvalidPiece ?_
      refine we_var 1 rfl (by walk_at "vis") rfl ?_
      refine ⟨_, rfl, kk_InvalidRuler_InvalidPiece, ?_⟩
      refine ⟨_, _, rfl, ?_⟩
      refine wa_cons ?_
      refine we_isX (x0 := _) ec_InvalidRuler hz hf ex rfl B.isinstance bt_isinstance rfl xm_NoPlace ?_
      refine we_var 1 rfl (by walk_at "vis") rfl ?_
      refine ⟨_, rfl, kk_InvalidRuler_NoPlace, ?_⟩
      refine ⟨_, _, rfl, ?_⟩
      refine wa_cons ?_
      refine we_bl ?_
      refine ⟨_, _, rfl, ?_⟩
      refine wa_nil ?_
      refine ⟨lt_ rfl, ?_⟩
      refine ⟨lt_ rfl, _, rfl, ?_⟩
      refine wb_let h (fun kinds1 => [.no, .sh (.adr ad), .own ((eL eB) kinds1)]) rfl fun kinds1 h => ?_
      -- 186
      refine wb_cons (ws_ret ?_)
      refine we_ix (fun _ _ => rfl) ?_
      refine we_lst ?_
      refine wa_cons ?_
      refine we_str ?_
      refine ⟨_, _, rfl, ?_⟩
      refine wa_cons ?_
      refine we_str ?_
      refine ⟨_, _, rfl, ?_⟩
      refine wa_cons ?_
      refine we_str ?_
      refine ⟨_, _, rfl, ?_⟩
      refine wa_cons ?_
      refine we_str ?_
      refine ⟨_, _, rfl, ?_⟩
      refine wa_nil ?_
      refine ⟨lt_ rfl, ?_⟩
      refine we_index ?_
      refine we_var 2 rfl (by walk_at "vis") rfl ?_
      refine ⟨_, .inl rfl, ?_⟩
      refine we_bl ?_
      refine ⟨_, _, .inl rfl, .inl rfl, ?_⟩
      obtain ⟨x2, hx2, h⟩ := Out.gt h
      refine t_indexB hx2 ?_
      obtain ⟨x3, hx3, h⟩ := Out.gt h
      refine ⟨_, _, .inl rfl, .inl rfl, ?_⟩
      refine t_ix (f := eZ) hx3 ?_
      refine ⟨_, rfl, ?_⟩
      exact ⟨_, rfl, rfl, h⟩
    rw [if_neg hInvalidRuler] at hv
    by_cases hInvalidNumber : n = 6
    · subst hInvalidNumber; rw [if_pos rfl] at hv; cases hv; obtain ⟨oe, pn, d, F1, T1, hr, hz, hf, ex, rfl⟩ := hY
      have h : (hs_law_fail_InvalidNumber).sat (fun v => p (eAt v)) (fun _ => False) := by rw [hs_law_fail_InvalidNumber_eq]; exact hp
      unfold hs_law_fail_InvalidNumber at h
      try dsimp only at h
      refine wb_env [.no, .sh (.adr ad), .no] rfl ?_
      -- 185
      refine wb_cons (ws_set 2 nd rfl (by walk_at "vis") ?_)
      refine we_lst ?_
      refine wa_cons ?_
      refine we_isX (x0 := _) ec_InvalidNumber hz hf ex rfl B.isinstance bt_isinstance rfl xm_InvalidNumber ?_
      refine we_var 1 rfl (by walk_at "vis") rfl ?_
      refine ⟨_, rfl, kk_InvalidNumber_InvalidNumber, ?_⟩
      refine ⟨_, _, rfl, ?_⟩
      refine wa_cons ?_
      refine we_isX (x0 := _) ec_InvalidNumber hz hf ex rfl B.isinstance bt_isinstance rfl xm_InvalidPiece ?_
      refine we_var 1 rfl (by walk_at "vis") rfl ?_
      refine ⟨_, rfl, kk_InvalidNumber_InvalidPiece, ?_⟩
      refine ⟨_, _, rfl, ?_⟩
      refine wa_cons ?_
      refine we_isX (x0 := _) ec_InvalidNumber hz hf ex rfl B.isinstance bt_isinstance rfl xm_NoPlace ?_
      refine we_var 1 rfl (by walk_at "vis") rfl ?_
      refine ⟨_, rfl, kk_InvalidNumber_NoPlace, ?_⟩
      refine ⟨_, _, rfl, ?_⟩
      refine wa_cons ?_
      refine we_bl ?_
      refine ⟨_, _, rfl, ?_⟩
      refine wa_nil ?_
      refine ⟨lt_ rfl, ?_⟩
      refine ⟨lt_ rfl, _, rfl, ?_⟩
      refine wb_let h (fun kinds1 => [.no, .sh (.adr ad), .own ((eL eB) kinds1)]) rfl fun kinds1 h => ?_
      -- 186
      refine wb_cons (ws_ret ?_)
      refine we_ix (fun _ _ => rfl) ?_
      refine we_lst ?_
      refine wa_cons ?_
      refine we_str ?_
      refine ⟨_, _, rfl, ?_⟩
      refine wa_cons ?_
      refine we_str ?_
      refine ⟨_, _, rfl, ?_⟩
      refine wa_cons ?_
      refine we_str ?_
      refine ⟨_, _, rfl, ?_⟩
      refine wa_cons ?_
      refine we_str ?_
      refine ⟨_, _, rfl, ?_⟩
      refine wa_nil ?_
      refine ⟨lt_ rfl, ?_⟩
      refine we_index ?_
      refine we_var 2 rfl (by walk_at "vis") rfl ?_
      refine ⟨_, .inl rfl, ?_⟩
      refine we_bl ?_
      refine ⟨_, _, .inl rfl, .inl rfl, ?_⟩
      obtain ⟨x2, hx2, h⟩ := Out.gt h
      refine t_indexB hx2 ?_
      obtain ⟨x3, hx3, h⟩ := Out.gt h
      refine ⟨_, _, .inl rfl, .inl rfl, ?_⟩
      refine t_ix (f := eZ) hx3 ?_
      refine ⟨_, rfl, ?_⟩
      exact ⟨_, rfl, rfl, h⟩
    rw [if_neg hInvalidNumber] at hv
    by_cases hInvalidPiece : n = 8
    · subst hInvalidPiece; rw [if_pos rfl] at hv; cases hv; obtain ⟨oe, pn, d, F1, T1, hr, hz, hf, ex, rfl⟩ := hY
      have h : (hs_law_fail_InvalidPiece).sat (fun v => p (eAt v)) (fun _ => False) := by rw [hs_law_fail_InvalidPiece_eq]; exact hp
      unfold hs_law_fail_InvalidPiece at h
      try dsimp only at h
      refine wb_env [.no, .sh (.adr ad), .no] rfl ?_
      -- 185
      refine wb_cons (ws_set 2 nd rfl (by walk_at "vis") ?_)
      refine we_lst ?_
      refine wa_cons ?_
      refine we_isX (x0 := _) ec_InvalidPiece hz hf ex rfl B.isinstance bt_isinstance rfl xm_InvalidNumber ?_
      refine we_var 1 rfl (by walk_at "vis") rfl ?_
      refine ⟨_, rfl, kk_InvalidPiece_InvalidNumber, ?_⟩
      refine ⟨_, _, rfl, ?_⟩
      refine wa_cons ?_
      refine we_isX (x0 := _) ec_InvalidPiece hz hf ex rfl B.isinstance bt_isinstance rfl xm_InvalidPiece ?_
      refine we_var 1 rfl (by walk_at "vis") rfl ?_
      refine ⟨_, rfl, kk_InvalidPiece_InvalidPiece, ?_⟩
      refine ⟨_, _, rfl, ?_⟩
      refine wa_cons ?_
      refine we_isX (x0 := _) ec_InvalidPiece hz hf ex rfl B.isinstance bt_isinstance rfl xm_NoPlace ?_
      refine we_var 1 rfl (by walk_at "vis") rfl ?_
      refine ⟨_, rfl, kk_InvalidPiece_NoPlace, ?_⟩
      refine ⟨_, _, rfl, ?_⟩
      refine wa_cons ?_
      refine we_bl ?_
      refine ⟨_, _, rfl, ?_⟩
      refine wa_nil ?_
      refine ⟨lt_ rfl, ?_⟩
      refine ⟨lt_ rfl, _, rfl, ?_⟩
      refine wb_let h (fun kinds1 => [.no, .sh (.adr ad), .own ((eL eB) kinds1)]) rfl fun kinds1 h => ?_
      -- 186
      refine wb_cons (ws_ret ?_)
      refine we_ix (fun _ _ => rfl) ?_
      refine we_lst ?_
      refine wa_cons ?_
      refine we_str ?_
      refine ⟨_, _, rfl, ?_⟩
      refine wa_cons ?_
      refine we_str ?_
      refine ⟨_, _, rfl, ?_⟩
      refine wa_cons ?_
      refine we_str ?_
      refine ⟨_, _, rfl, ?_⟩
      refine wa_cons ?_
      refine we_str ?_
      refine ⟨_, _, rfl, ?_⟩
      refine wa_nil ?_
      refine ⟨lt_ rfl, ?_⟩
      refine we_index ?_
      refine we_var 2 rfl (by walk_at "vis") rfl ?_
      refine ⟨_, .inl rfl, ?_⟩
      refine we_bl ?_
      refine ⟨_, _, .inl rfl, .inl rfl, ?_⟩
      obtain ⟨x2, hx2, h⟩ := Out.gt h
      refine t_indexB hx2 ?_
      obtain ⟨x3, hx3, h⟩ := Out.gt h
      refine ⟨_, _, .inl rfl, .inl rfl, ?_⟩
      refine t_ix (f := eZ) hx3 ?_
      refine ⟨_, rfl, ?_⟩
      exact ⟨_, rfl, rfl, h⟩
    rw [if_neg hInvalidPiece] at hv
    by_cases hNoPlace : n = 19
    · subst hNoPlace; rw [if_pos rfl] at hv; cases hv; obtain ⟨oe, pn, d, F1, T1, hr, hz, hf, ex, rfl⟩ := hY
      have h : (hs_law_fail_NoPlace).sat (fun v => p (eAt v)) (fun _ => False) := by rw [hs_law_fail_NoPlace_eq]; exact hp
      unfold hs_law_fail_NoPlace at h
      try dsimp only at h
      refine wb_env [.no, .sh (.adr ad), .no] rfl ?_
      -- 185
      refine wb_cons (ws_set 2 nd rfl (by walk_at "vis") ?_)
      refine we_lst ?_
      refine wa_cons ?_
      refine we_isX (x0 := _) ec_NoPlace hz hf ex rfl B.isinstance bt_isinstance rfl xm_InvalidNumber ?_
      refine we_var 1 rfl (by walk_at "vis") rfl ?_
      refine ⟨_, rfl, kk_NoPlace_InvalidNumber, ?_⟩
      refine ⟨_, _, rfl, ?_⟩
      refine wa_cons ?_
      refine we_isX (x0 := _) ec_NoPlace hz hf ex rfl B.isinstance bt_isinstance rfl xm_InvalidPiece ?_
      refine we_var 1 rfl (by walk_at "vis") rfl ?_
      refine ⟨_, rfl, kk_NoPlace_InvalidPiece, ?_⟩
      refine ⟨_, _, rfl, ?_⟩
      refine wa_cons ?_
      refine we_isX (x0 := _) ec_NoPlace hz hf ex rfl B.isinstance bt_isinstance rfl xm_NoPlace ?_
      refine we_var 1 rfl (by walk_at "vis") rfl ?_
      refine ⟨_, rfl, kk_NoPlace_NoPlace, ?_⟩
      refine ⟨_, _, rfl, ?_⟩
      refine wa_cons ?_
      refine we_bl ?_
      refine ⟨_, _, rfl, ?_⟩
      refine wa_nil ?_
      refine ⟨lt_ rfl, ?_⟩
      refine ⟨lt_ rfl, _, rfl, ?_⟩
      refine wb_let h (fun kinds1 => [.no, .sh (.adr ad), .own ((eL eB) kinds1)]) rfl fun kinds1 h => ?_
      -- 186
      refine wb_cons (ws_ret ?_)
      refine we_ix (fun _ _ => rfl) ?_
      refine we_lst ?_
      refine wa_cons ?_
      refine we_str ?_
      refine ⟨_, _, rfl, ?_⟩
      refine wa_cons ?_
      refine we_str ?_
      refine ⟨_, _, rfl, ?_⟩
      refine wa_cons ?_
      refine we_str ?_
      refine ⟨_, _, rfl, ?_⟩
      refine wa_cons ?_
      refine we_str ?_
      refine ⟨_, _, rfl, ?_⟩
      refine wa_nil ?_
      refine ⟨lt_ rfl, ?_⟩
      refine we_index ?_
      refine we_var 2 rfl (by walk_at "vis") rfl ?_
      refine ⟨_, .inl rfl, ?_⟩
      refine we_bl ?_
      refine ⟨_, _, .inl rfl, .inl rfl, ?_⟩
      obtain ⟨x2, hx2, h⟩ := Out.gt h
      refine t_indexB hx2 ?_
      obtain ⟨x3, hx3, h⟩ := Out.gt h
      refine ⟨_, _, .inl rfl, .inl rfl, ?_⟩
      refine t_ix (f := eZ) hx3 ?_
      refine ⟨_, rfl, ?_⟩
      exact ⟨_, rfl, rfl, h⟩
    rw [if_neg hNoPlace] at hv
    cases hv
theorem ok_law {f : Addr} {fd : FuncData} (F : Fun K "law" "law" s_law f fd) (B : Bn mg) (c_law_alike_1 : Cal P w K mg base "_law_alike" 4 ["_law_found", "_law_due"] (alikeF 1)) (c_law_alike_2 : Cal P w K mg base "_law_alike" 5 ["_law_found", "_law_due"] (alikeF 2)) (c_law_alike_3 : Cal P w K mg base "_law_alike" 6 ["_law_found", "_law_due"] (alikeF 3)) (c_law_mix : Cal P w K mg base "_law_mix" 3 ["_law_script", "_law_seed"] (FMix m_law_mix)) (c_law_next : Cal P w K mg base "_law_next" 3 ["_law_h", "_law_limit"] (FBh (A := Int) (R := Int) (fun a => [eI a]) (fun v => .sh (eI v)) (fun a => m_law_next a))) (d_Ruler_turned : MethD P w K mg base C_Ruler "turned" 8 ["self"] (FM cx (A := Rul) (R := Rul) (fun a => [(eRul C_Ruler) a]) (fun v => .sh ((eRul C_Ruler) v)) (fun a => m_Ruler_turned a))) (cl_Ruler : Cl_Ruler K C_Ruler) (k_Ruler : MakeD P w K mg base "Ruler" C_Ruler 5 ["self", "marks", "error"] (FMI cx (A := (List Int) × Int) (R := Rul) (fun a => [(eT eI) a.1, eI a.2]) (fun r => [.int r.error, .tup (r.marks.map D.int)]) (fun a => mk_Ruler a.1 a.2))) (l_law_fail : LErr P w K mg base "_law_fail" none (hdOf cx eAt hd_law_fail))    (cl_Origin : Clo_Origin K C_Origin) (d_Origin_miss : MethD P w K mg base C_Origin "miss" 10 ["self", "index", "number"] (FMO cx C_Origin ns_Origin (σT := S_Origin) (A := IB × Int) (R := Int) (fl_Origin C_Ruler) (fun a => [eIB a.1, eI a.2]) (fun v => .sh (eI v)) (fun s a => m_Origin_miss s a.1 a.2))) (d_Origin_numbers : MethD P w K mg base C_Origin "numbers" 8 ["self", "index"] (FCO cx C_Origin ns_Origin (σT := S_Origin) (A := IB) (R := List Int) (fl_Origin C_Ruler) (fun a => [eIB a]) (fun v => .fr ((eL eI) v)) (fun s a => m_Origin_numbers s a))) (d_Origin_see : MethD P w K mg base C_Origin "see" 10 ["self", "index", "number"] (FMO cx C_Origin ns_Origin (σT := S_Origin) (A := IB × Int) (R := Int) (fl_Origin C_Ruler) (fun a => [eIB a.1, eI a.2]) (fun v => .sh (eI v)) (fun s a => m_Origin_see s a.1 a.2))) (d_Origin_telling : MethD P w K mg base C_Origin "telling" 8 ["self"] (FCO cx C_Origin ns_Origin (σT := S_Origin) (A := Unit) (R := Int) (fl_Origin C_Ruler) (fun _ => []) (fun v => .sh (eI v)) (fun s _ => m_Origin_telling s))) (k_Origin : MakeO P w K mg base "Origin" C_Origin 10 ["self", "rulers", "piece"] (FIO cx C_Origin ns_Origin (σT := S_Origin) (A := (List Rul) × (List IB)) (fl_Origin C_Ruler) (fun a => [(eT (eRul C_Ruler)) a.1, (eT eIB) a.2]) (fun a => mk_Origin a.1 a.2))) (p_Origin_candidates : PropD P w K mg base C_Origin "candidates" 3 (FCO cx C_Origin ns_Origin (σT := S_Origin) (A := Unit) (R := List ((Int × Int × Bool))) (fl_Origin C_Ruler) (fun _ => []) (fun v => .sh ((eT (eP3 eI eI eB)) v)) (fun s _ => .ok (m_Origin_candidates s)))) (p_Origin_seen : PropD P w K mg base C_Origin "seen" 3 (FCO cx C_Origin ns_Origin (σT := S_Origin) (A := Unit) (R := List ((S × Int × Int))) (fl_Origin C_Ruler) (fun _ => []) (fun v => .fr ((eL (eP3 eZ eI eI)) v)) (fun s _ => .ok (m_Origin_seen s)))) {c_law P_law : Addr} (hcode : fd.code = .ref c_law) (tb : LamX.TabB base mg c_law P_law) : FnOk P w K mg base (L2.CX P w) 17 f fd ["_law_script"] (spD K (FLawT P_law (("law" ++ ".<locals>." : Str) ++ "<lambda>") m_law)) := by
  refine def_okC F hcode sc_law (fun ds G post px h => ?_) (fun A outer s H E F0 T hr ds G0 post px h tk hp => ?_)
  · obtain ⟨_, rfl, _⟩ := h; rfl
  obtain ⟨script1, rfl, hP0, h⟩ := h
  unfold m_law at h
  try dsimp only at h
  have nd := sc_law.nd
  obtain ⟨q_Ruler_0, sl_Ruler_0⟩ := cl_Ruler.s0
  obtain ⟨q_Ruler_1, sl_Ruler_1⟩ := cl_Ruler.s1
  change WB _ _ [.sh (D.scr script1), .no, .no, .no, .no, .no, .no, .no, .no, .no, .no] _ _
  -- 188
  refine wb_cons ?_
  refine Hold.h ?_
  refine ws_setH 1 nd rfl (by walk_at "vis") ?_
  refine we_cal tk c_law_mix hr rfl ?_
  refine wa_cons ?_
  refine we_var 0 rfl (by walk_at "vis") rfl ?_
  refine ⟨_, _, rfl, ?_⟩
  refine wa_cons ?_
  refine we_int ?_
  refine ⟨_, _, rfl, ?_⟩
  refine wa_nil ?_
  obtain ⟨g2, h⟩ := Out.gd h
  refine ⟨script1, (43 : Int), g2, rfl, fun b g hne hb0 hg0 => ?_⟩
  rw [← mixT_pos (m := m_law_mix) (seed := (43 : Int)) g2]
  refine ⟨lt_ rfl, _, rfl, ?_⟩
  change WB _ _ [.sh (D.scr script1), .sh (.adr b), .no, .no, .no, .no, .no, .no, .no, .no, .no] _ _
  have hB : ∀ x', GS [bhA b g x', tabA P_law (("law" ++ ".<locals>." : Str) ++ "<lambda>")] (bxH G0 b g x') := fun x' => GS.boxHT hne hP0 hb0 hg0 x'
  -- 189
  refine wb_cons ?_
  refine Hold.h ?_
  refine ws_setH 2 nd rfl (by walk_at "vis") ?_
  refine we_make tk k_Ruler hr rfl ?_
  refine wa_cons ?_
  refine we_tup ?_
  refine wa_cons ?_
  refine we_int ?_
  refine ⟨_, _, rfl, ?_⟩
  refine wa_cons ?_
  refine we_int ?_
  refine ⟨_, _, rfl, ?_⟩
  refine wa_cons ?_
  refine we_int ?_
  refine ⟨_, _, rfl, ?_⟩
  refine wa_cons ?_
  refine we_int ?_
  refine ⟨_, _, rfl, ?_⟩
  refine wa_nil ?_
  refine ⟨lt_ rfl, ?_⟩
  refine ⟨_, _, rfl, ?_⟩
  refine wa_cons ?_
  refine we_int ?_
  refine ⟨_, _, rfl, ?_⟩
  refine wa_nil ?_
  refine ⟨([(0 : Int), (3 : Int), (4 : Int), (9 : Int)], (0 : Int)), rfl, (Out.sb h).imp (fun r3 h => ?_) (fun _ he => he.elim)⟩
  refine ⟨lt_ rfl, _, rfl, ?_⟩
  change WB _ _ [.sh (D.scr script1), .sh (.adr b), .sh ((eRul C_Ruler) r3), .no, .no, .no, .no, .no, .no, .no, .no] _ _
  -- 190
  refine wb_cons ?_
  refine Hold.h ?_
  refine ws_setH 3 nd rfl (by walk_at "vis") ?_
  refine we_ix (fun _ _ => rfl) ?_
  refine we_lst ?_
  refine wa_cons ?_
  refine we_tup ?_
  refine wa_cons ?_
  refine we_int ?_
  refine ⟨_, _, rfl, ?_⟩
  refine wa_cons ?_
  refine we_int ?_
  refine ⟨_, _, rfl, ?_⟩
  refine wa_nil ?_
  refine ⟨lt_ rfl, ?_⟩
  refine ⟨_, _, rfl, ?_⟩
  refine wa_cons ?_
  refine we_tup ?_
  refine wa_nil ?_
  refine ⟨by decide, ?_⟩
  refine ⟨_, _, rfl, ?_⟩
  refine wa_cons ?_
  refine we_tup ?_
  refine wa_cons ?_
  refine we_int ?_
  refine ⟨_, _, rfl, ?_⟩
  refine wa_cons ?_
  refine we_int ?_
  refine ⟨_, _, rfl, ?_⟩
  refine wa_cons ?_
  refine we_int ?_
  refine ⟨_, _, rfl, ?_⟩
  refine wa_nil ?_
  refine ⟨lt_ rfl, ?_⟩
  refine ⟨_, _, rfl, ?_⟩
  refine wa_cons ?_
  refine we_tup ?_
  refine wa_cons ?_
  refine we_int ?_
  refine ⟨_, _, rfl, ?_⟩
  refine wa_cons ?_
  refine we_int ?_
  refine ⟨_, _, rfl, ?_⟩
  refine wa_nil ?_
  refine ⟨lt_ rfl, ?_⟩
  refine ⟨_, _, rfl, ?_⟩
  refine wa_cons ?_
  refine we_tup ?_
  refine wa_cons ?_
  refine we_int ?_
  refine ⟨_, _, rfl, ?_⟩
  refine wa_cons ?_
  refine we_int ?_
  refine ⟨_, _, rfl, ?_⟩
  refine wa_cons ?_
  refine we_bl ?_
  refine ⟨_, _, rfl, ?_⟩
  refine wa_nil ?_
  refine ⟨lt_ rfl, ?_⟩
  refine ⟨_, _, rfl, ?_⟩
  refine wa_nil ?_
  refine ⟨lt_ rfl, ?_⟩
  refine we_cal tk c_law_next hr rfl ?_
  refine wa_cons ?_
  refine we_var 1 rfl (by walk_at "vis") rfl ?_
  refine ⟨_, _, rfl, ?_⟩
  refine wa_cons ?_
  refine we_int ?_
  refine ⟨_, _, rfl, ?_⟩
  refine wa_nil ?_
  refine ⟨(5 : Int), G0, b, g, (mixT m_law_mix script1 (43 : Int)), hne, rfl, rfl, (Out.sb h).imp (fun r4 h => ?_) (fun _ he => he.elim)⟩
  obtain ⟨x5, hx5, h⟩ := Out.gt h
  refine ⟨_, _, .inl rfl, .inl rfl, ?_⟩
  refine t_ix (f := (eT eIB)) hx5 ?_
  refine ⟨lt_ rfl, _, rfl, ?_⟩
  change WB _ _ [.sh (D.scr script1), .sh (.adr b), .sh ((eRul C_Ruler) r3), .sh ((eT eIB) x5), .no, .no, .no, .no, .no, .no, .no] _ _
  -- 191
  refine wb_cons ?_
  refine Hold.h ?_
  refine ws_setH 4 nd rfl (by walk_at "vis") ?_
  refine we_lst ?_
  refine wa_cons ?_
  refine we_mkLam tb rfl (GS.tab (hB r4.2) 1 rfl) (LamX.lamS_by (by rfl)) rfl (fun _ _ _ _ _ => rfl) (fun fk6 ck6 os6 LK6 => ?_)
  refine ⟨_, _, rfl, ?_⟩
  refine wa_cons ?_
  refine we_mkLamD (b := "_law_a") tb rfl (GS.tab (hB r4.2) 1 rfl) (lamD_by (by rfl)) rfl rfl rfl (fun _ _ _ _ _ _ _ _ => ⟨_, rfl, rfl⟩) (fun fk7 ck7 os7 LK7 => ?_)
  refine ⟨_, _, rfl, ?_⟩
  refine wa_cons ?_
  refine we_mkLamD (b := "_law_b") tb rfl (GS.tab (hB r4.2) 1 rfl) (lamD_by (by rfl)) rfl rfl rfl (fun _ _ _ _ _ _ _ _ => ⟨_, rfl, rfl⟩) (fun fk8 ck8 os8 LK8 => ?_)
  refine ⟨_, _, rfl, ?_⟩
  refine wa_nil ?_
  refine ⟨lt_ rfl, ?_⟩
  refine ⟨lt_ rfl, _, rfl, ?_⟩
  change WB _ _ [.sh (D.scr script1), .sh (.adr b), .sh ((eRul C_Ruler) r3), .sh ((eT eIB) x5), .own ((eL id) [(D.hob fk6 os6), (D.hob fk7 os7), (D.hob fk8 os8)]), .no, .no, .no, .no, .no, .no] _ _
  -- 192
  refine wb_cons ?_
  refine Hold.h ?_
  refine ws_setH 4 nd rfl (by walk_at "vis") ?_
  refine we_bin ?_
  refine we_var 4 rfl (by walk_at "vis") rfl ?_
  refine we_lst ?_
  refine wa_cons ?_
  refine we_mkLamD (b := "_law_c") tb rfl (GS.tab (hB r4.2) 1 rfl) (lamD_by (by rfl)) rfl rfl rfl (fun _ _ _ _ _ _ _ _ => ⟨_, rfl, rfl⟩) (fun fk9 ck9 os9 LK9 => ?_)
  refine ⟨_, _, rfl, ?_⟩
  refine wa_cons ?_
  refine we_mkLamD (b := "_law_d") tb rfl (GS.tab (hB r4.2) 1 rfl) (lamD_by (by rfl)) rfl rfl rfl (fun _ _ _ _ _ _ _ _ => ⟨_, rfl, rfl⟩) (fun fk10 ck10 os10 LK10 => ?_)
  refine ⟨_, _, rfl, ?_⟩
  refine wa_nil ?_
  refine ⟨lt_ rfl, ?_⟩
  refine ⟨_, _, .inl rfl, .inl rfl, ?_⟩
  refine t_cat (f := id) [(D.hob fk6 os6), (D.hob fk7 os7), (D.hob fk8 os8)] [(D.hob fk9 os9), (D.hob fk10 os10)] (Nat.le_of_ble_eq_true rfl) ?_
  refine ⟨lt_ rfl, _, rfl, ?_⟩
  change WB _ _ [.sh (D.scr script1), .sh (.adr b), .sh ((eRul C_Ruler) r3), .sh ((eT eIB) x5), .own ((eL id) ([(D.hob fk6 os6), (D.hob fk7 os7), (D.hob fk8 os8)] ++ [(D.hob fk9 os9), (D.hob fk10 os10)])), .no, .no, .no, .no, .no, .no] _ _
  -- 193
  refine wb_cons (ws_expr ?_)
  refine we_appendT (f := id) ?_
  refine we_var 4 rfl (by walk_at "vis") rfl ?_
  refine ⟨_, ([(D.hob fk6 os6), (D.hob fk7 os7), (D.hob fk8 os8)] ++ [(D.hob fk9 os9), (D.hob fk10 os10)]), rfl, rfl, ?_⟩
  refine we_mkLamD (b := "_law_e") tb rfl (GS.tab (hB r4.2) 1 rfl) (lamD_by (by rfl)) rfl rfl rfl (fun _ _ _ _ _ _ _ _ => ⟨_, rfl, rfl⟩) (fun fk12 ck12 os12 LK12 => ?_)
  refine ⟨(D.hob fk12 os12), _, ([(D.hob fk6 os6), (D.hob fk7 os7), (D.hob fk8 os8)] ++ [(D.hob fk9 os9), (D.hob fk10 os10)]), rfl, rfl, (lt_ rfl), ?_⟩
  change WB _ _ [.sh (D.scr script1), .sh (.adr b), .sh ((eRul C_Ruler) r3), .sh ((eT eIB) x5), .own ((eL id) (([(D.hob fk6 os6), (D.hob fk7 os7), (D.hob fk8 os8)] ++ [(D.hob fk9 os9), (D.hob fk10 os10)]) ++ [(D.hob fk12 os12)])), .no, .no, .no, .no, .no, .no] _ _
  -- 194
  refine wb_cons ?_
  refine Hold.h ?_
  refine ws_setH 5 nd rfl (by walk_at "vis") ?_
  refine we_lst ?_
  refine wa_cons ?_
  refine we_str ?_
  refine ⟨_, _, rfl, ?_⟩
  refine wa_cons ?_
  refine we_str ?_
  refine ⟨_, _, rfl, ?_⟩
  refine wa_cons ?_
  refine we_str ?_
  refine ⟨_, _, rfl, ?_⟩
  refine wa_cons ?_
  refine we_str ?_
  refine ⟨_, _, rfl, ?_⟩
  refine wa_cons ?_
  refine we_str ?_
  refine ⟨_, _, rfl, ?_⟩
  refine wa_cons ?_
  refine we_str ?_
  refine ⟨_, _, rfl, ?_⟩
  refine wa_nil ?_
  refine ⟨lt_ rfl, ?_⟩
  refine ⟨lt_ rfl, _, rfl, ?_⟩
  refine Hold.h ?_
  refine wb_letH h (fun due13 => [.sh (D.scr script1), .sh (.adr b), .sh ((eRul C_Ruler) r3), .sh ((eT eIB) x5), .own ((eL id) (([(D.hob fk6 os6), (D.hob fk7 os7), (D.hob fk8 os8)] ++ [(D.hob fk9 os9), (D.hob fk10 os10)]) ++ [(D.hob fk12 os12)])), .own ((eL eAt) due13), .no, .no, .no, .no, .no]) rfl fun due13 h => ?_
  -- 195
  refine wb_cons (ws_if ?_)
  refine wt_not ?_
  refine wt_val (fun _ => rfl) ?_
  refine we_cal tk c_law_alike_1 hr rfl ?_
  refine wa_cons ?_
  refine we_frzS 4 rfl rfl ?_
  refine we_lcLamT (i := 10) (ds := [D.hob fk6 os6, D.hob fk7 os7, D.hob fk8 os8, D.hob fk9 os9, D.hob fk10 os10, D.hob fk12 os12]) (t0 := ()) [.sh (D.scr script1), .sh (.adr b), .sh ((eRul C_Ruler) r3), .sh ((eT eIB) x5), .sh ((eL id) (([(D.hob fk6 os6), (D.hob fk7 os7), (D.hob fk8 os8)] ++ [(D.hob fk9 os9), (D.hob fk10 os10)]) ++ [(D.hob fk12 os12)])), .own ((eL eAt) due13), .no, .no, .no, .no, .no] eAt (fun (t : Unit) G' => GS [bhA b g r4.2, tabA P_law (("law" ++ ".<locals>." : Str) ++ "<lambda>")] G') h rfl nd (blkOk_by (by rfl)) rfl ?_
  refine wi_lst ?_
  refine we_var 4 rfl (by walk_at "vis") rfl ?_
  refine ⟨_, _, rfl, fun _ => ?_⟩
  refine ⟨rfl, (hB r4.2), Nat.le_of_ble_eq_true rfl, Wk.refl _, rfl, ?_, fun l14 G15 hg h => ?_⟩
  · skip
    refine .cons ?_ ?_
    · skip
      refine lam_okS (k := 13) (cx := cx) eAt (fun (_ : Unit) => (none : Option At)) (fun (t : Unit) G' => GS [bhA b g r4.2, tabA P_law (("law" ++ ".<locals>." : Str) ++ "<lambda>")] G') l_law_fail hr LK6 (fun Y t G Q' E' hg hY hinj h => ?_)
      obtain ⟨G0, hGe, hB⟩ : ∃ G0, G = bxH G0 b g r4.2 ∧ ∀ x', GS [bhA b g x', tabA P_law (("law" ++ ".<locals>." : Str) ++ "<lambda>")] (bxH G0 b g x') := ⟨_, (GS.boxH hg 0 rfl).2⟩
      subst hGe
      obtain ⟨A1, outer1, s1, H1, E1, f1, c1, F1, T1, hr, tk, rfl⟩ := hY
      refine we_env [.sh (D.scr script1), .sh (.adr b), .sh ((eRul C_Ruler) r3), .sh ((eT eIB) x5), .sh ((eL id) (([(D.hob fk6 os6), (D.hob fk7 os7), (D.hob fk8 os8)] ++ [(D.hob fk9 os9), (D.hob fk10 os10)]) ++ [(D.hob fk12 os12)])), .no, .no, .no, .no, .no, .no] rfl ?_
      refine we_makeC tk k_Origin hr rfl ?_
      refine wa_cons ?_
      refine we_tup ?_
      refine wa_nil ?_
      refine ⟨by decide, ?_⟩
      refine ⟨_, _, rfl, ?_⟩
      refine wa_cons ?_
      refine we_var 3 rfl (by walk_at "vis") rfl ?_
      refine ⟨_, _, rfl, ?_⟩
      refine wa_nil ?_
      refine ⟨(([] : List Rul), x5), rfl, (Out.sb h).imp (fun r16 h _ _ _ _ _ => ?_) (fun x he G_ hG_ => ⟨(hB r4.2).keep hG_, x, rfl, he⟩)⟩
      obtain ⟨_, hv⟩ := hinj _ h; cases hv
    refine .cons ?_ ?_
    · skip
      refine lam_okS (k := 13) (cx := cx) eAt (fun (_ : Unit) => (none : Option At)) (fun (t : Unit) G' => GS [bhA b g r4.2, tabA P_law (("law" ++ ".<locals>." : Str) ++ "<lambda>")] G') l_law_fail hr LK7 (fun Y t G Q' E' hg hY hinj h => ?_)
      obtain ⟨G0, hGe, hB⟩ : ∃ G0, G = bxH G0 b g r4.2 ∧ ∀ x', GS [bhA b g x', tabA P_law (("law" ++ ".<locals>." : Str) ++ "<lambda>")] (bxH G0 b g x') := ⟨_, (GS.boxH hg 0 rfl).2⟩
      subst hGe
      obtain ⟨A1, outer1, s1, H1, E1, f1, c1, F1, T1, hr, tk, rfl⟩ := hY
      refine we_env [.sh (D.scr script1), .sh (.adr b), .sh ((eRul C_Ruler) r3), .sh ((eT eIB) x5), .sh ((eL id) (([(D.hob fk6 os6), (D.hob fk7 os7), (D.hob fk8 os8)] ++ [(D.hob fk9 os9), (D.hob fk10 os10)]) ++ [(D.hob fk12 os12)])), .no, .no, .no, .no, .no, .no] rfl ?_
      refine we_makeC tk k_Origin hr rfl ?_
      refine wa_cons ?_
      refine we_bin ?_
      refine we_tup ?_
      refine wa_cons ?_
      refine we_var 2 rfl (by walk_at "vis") rfl ?_
      refine ⟨_, _, rfl, ?_⟩
      refine wa_nil ?_
      refine ⟨lt_ rfl, ?_⟩
      refine we_int ?_
      obtain ⟨g17, h⟩ := Out.gd h
      refine ⟨_, _, .inl rfl, .inl rfl, ?_⟩
      refine t_repT (f := (eRul C_Ruler)) [r3] ⟨g17.1, (fun z => by have := g17.2.1; rw [z] at this; cases this), g17.2.2⟩ ?_
      refine ⟨_, _, rfl, ?_⟩
      refine wa_cons ?_
      refine we_tup ?_
      refine wa_cons ?_
      refine we_int ?_
      refine ⟨_, _, rfl, ?_⟩
      refine wa_cons ?_
      refine we_int ?_
      refine ⟨_, _, rfl, ?_⟩
      refine wa_nil ?_
      refine ⟨lt_ rfl, ?_⟩
      refine ⟨_, _, rfl, ?_⟩
      refine wa_nil ?_
      refine ⟨((List.replicate ((7 : Int)).toNat [r3]).flatten, [IB.i (0 : Int), IB.i (3 : Int)]), rfl, (Out.sb h).imp (fun r18 h _ _ _ _ _ => ?_) (fun x he G_ hG_ => ⟨(hB r4.2).keep hG_, x, rfl, he⟩)⟩
      obtain ⟨_, hv⟩ := hinj _ h; cases hv
    refine .cons ?_ ?_
    · skip
      refine lam_okS (k := 13) (cx := cx) eAt (fun (_ : Unit) => (none : Option At)) (fun (t : Unit) G' => GS [bhA b g r4.2, tabA P_law (("law" ++ ".<locals>." : Str) ++ "<lambda>")] G') l_law_fail hr LK8 (fun Y t G Q' E' hg hY hinj h => ?_)
      obtain ⟨G0, hGe, hB⟩ : ∃ G0, G = bxH G0 b g r4.2 ∧ ∀ x', GS [bhA b g x', tabA P_law (("law" ++ ".<locals>." : Str) ++ "<lambda>")] (bxH G0 b g x') := ⟨_, (GS.boxH hg 0 rfl).2⟩
      subst hGe
      obtain ⟨A1, outer1, s1, H1, E1, f1, c1, F1, T1, hr, tk, rfl⟩ := hY
      refine we_env [.sh (D.scr script1), .sh (.adr b), .sh ((eRul C_Ruler) r3), .sh ((eT eIB) x5), .sh ((eL id) (([(D.hob fk6 os6), (D.hob fk7 os7), (D.hob fk8 os8)] ++ [(D.hob fk9 os9), (D.hob fk10 os10)]) ++ [(D.hob fk12 os12)])), .no, .no, .no, .no, .no, .no] rfl ?_
      refine we_makeC tk k_Origin hr rfl ?_
      refine wa_cons ?_
      refine we_bin ?_
      refine we_tup ?_
      refine wa_cons ?_
      refine we_var 2 rfl (by walk_at "vis") rfl ?_
      refine ⟨_, _, rfl, ?_⟩
      refine wa_nil ?_
      refine ⟨lt_ rfl, ?_⟩
      refine we_int ?_
      obtain ⟨g19, h⟩ := Out.gd h
      refine ⟨_, _, .inl rfl, .inl rfl, ?_⟩
      refine t_repT (f := (eRul C_Ruler)) [r3] ⟨g19.1, (fun z => by have := g19.2.1; rw [z] at this; cases this), g19.2.2⟩ ?_
      refine ⟨_, _, rfl, ?_⟩
      refine wa_cons ?_
      refine we_var 3 rfl (by walk_at "vis") rfl ?_
      refine ⟨_, _, rfl, ?_⟩
      refine wa_nil ?_
      refine ⟨((List.replicate ((6 : Int)).toNat [r3]).flatten, x5), rfl, (Out.sb h).imp (fun r20 h _ _ _ _ _ => ?_) (fun x he G_ hG_ => ⟨(hB r4.2).keep hG_, x, rfl, he⟩)⟩
      obtain ⟨_, hv⟩ := hinj _ h; cases hv
    refine .cons ?_ ?_
    · skip
      refine lam_okS (k := 13) (cx := cx) eAt (fun (_ : Unit) => (none : Option At)) (fun (t : Unit) G' => GS [bhA b g r4.2, tabA P_law (("law" ++ ".<locals>." : Str) ++ "<lambda>")] G') l_law_fail hr LK9 (fun Y t G Q' E' hg hY hinj h => ?_)
      obtain ⟨G0, hGe, hB⟩ : ∃ G0, G = bxH G0 b g r4.2 ∧ ∀ x', GS [bhA b g x', tabA P_law (("law" ++ ".<locals>." : Str) ++ "<lambda>")] (bxH G0 b g x') := ⟨_, (GS.boxH hg 0 rfl).2⟩
      subst hGe
      obtain ⟨A1, outer1, s1, H1, E1, f1, c1, F1, T1, hr, tk, rfl⟩ := hY
      refine we_env [.sh (D.scr script1), .sh (.adr b), .sh ((eRul C_Ruler) r3), .sh ((eT eIB) x5), .sh ((eL id) (([(D.hob fk6 os6), (D.hob fk7 os7), (D.hob fk8 os8)] ++ [(D.hob fk9 os9), (D.hob fk10 os10)]) ++ [(D.hob fk12 os12)])), .no, .no, .no, .no, .no, .no] rfl ?_
      refine we_makeC tk k_Origin hr rfl ?_
      refine wa_cons ?_
      refine we_tup ?_
      refine wa_cons ?_
      refine we_var 2 rfl (by walk_at "vis") rfl ?_
      refine ⟨_, _, rfl, ?_⟩
      refine wa_nil ?_
      refine ⟨lt_ rfl, ?_⟩
      refine ⟨_, _, rfl, ?_⟩
      refine wa_cons ?_
      refine we_var 3 rfl (by walk_at "vis") rfl ?_
      refine ⟨_, _, rfl, ?_⟩
      refine wa_nil ?_
      refine ⟨([r3], x5), rfl, (Out.sb h).imp (fun r21 h _ _ _ _ _ => ?_) (fun x he G_ hG_ => ⟨(hB r4.2).keep hG_, x, rfl, he⟩)⟩
      obtain ⟨_, hv⟩ := hinj _ h; cases hv
    refine .cons ?_ ?_
    · skip
      refine lam_okS (k := 13) (cx := cx) eAt (fun (_ : Unit) => (none : Option At)) (fun (t : Unit) G' => GS [bhA b g r4.2, tabA P_law (("law" ++ ".<locals>." : Str) ++ "<lambda>")] G') l_law_fail hr LK10 (fun Y t G Q' E' hg hY hinj h => ?_)
      obtain ⟨G0, hGe, hB⟩ : ∃ G0, G = bxH G0 b g r4.2 ∧ ∀ x', GS [bhA b g x', tabA P_law (("law" ++ ".<locals>." : Str) ++ "<lambda>")] (bxH G0 b g x') := ⟨_, (GS.boxH hg 0 rfl).2⟩
      subst hGe
      obtain ⟨A1, outer1, s1, H1, E1, f1, c1, F1, T1, hr, tk, rfl⟩ := hY
      refine we_env [.sh (D.scr script1), .sh (.adr b), .sh ((eRul C_Ruler) r3), .sh ((eT eIB) x5), .sh ((eL id) (([(D.hob fk6 os6), (D.hob fk7 os7), (D.hob fk8 os8)] ++ [(D.hob fk9 os9), (D.hob fk10 os10)]) ++ [(D.hob fk12 os12)])), .no, .no, .no, .no, .no, .no] rfl ?_
      refine we_makeC tk k_Origin hr rfl ?_
      refine wa_cons ?_
      refine we_tup ?_
      refine wa_cons ?_
      refine we_var 2 rfl (by walk_at "vis") rfl ?_
      refine ⟨_, _, rfl, ?_⟩
      refine wa_cons ?_
      refine we_var 2 rfl (by walk_at "vis") rfl ?_
      refine ⟨_, _, rfl, ?_⟩
      refine wa_nil ?_
      refine ⟨lt_ rfl, ?_⟩
      refine ⟨_, _, rfl, ?_⟩
      refine wa_cons ?_
      refine we_tup ?_
      refine wa_cons ?_
      refine we_int ?_
      refine ⟨_, _, rfl, ?_⟩
      refine wa_cons ?_
      refine we_int ?_
      refine ⟨_, _, rfl, ?_⟩
      refine wa_nil ?_
      refine ⟨lt_ rfl, ?_⟩
      refine ⟨_, _, rfl, ?_⟩
      refine wa_nil ?_
      refine ⟨([r3, r3], [IB.i (0 : Int), IB.i (2 : Int)]), rfl, (Out.sb h).imp (fun r22 h _ _ _ _ _ => ?_) (fun x he G_ hG_ => ⟨(hB r4.2).keep hG_, x, rfl, he⟩)⟩
      obtain ⟨_, hv⟩ := hinj _ h; cases hv
    refine .cons ?_ ?_
    · skip
      refine lam_okS (k := 13) (cx := cx) eAt (fun (_ : Unit) => (none : Option At)) (fun (t : Unit) G' => GS [bhA b g r4.2, tabA P_law (("law" ++ ".<locals>." : Str) ++ "<lambda>")] G') l_law_fail hr LK12 (fun Y t G Q' E' hg hY hinj h => ?_)
      obtain ⟨G0, hGe, hB⟩ : ∃ G0, G = bxH G0 b g r4.2 ∧ ∀ x', GS [bhA b g x', tabA P_law (("law" ++ ".<locals>." : Str) ++ "<lambda>")] (bxH G0 b g x') := ⟨_, (GS.boxH hg 0 rfl).2⟩
      subst hGe
      obtain ⟨A1, outer1, s1, H1, E1, f1, c1, F1, T1, hr, tk, rfl⟩ := hY
      refine we_env [.sh (D.scr script1), .sh (.adr b), .sh ((eRul C_Ruler) r3), .sh ((eT eIB) x5), .sh ((eL id) (([(D.hob fk6 os6), (D.hob fk7 os7), (D.hob fk8 os8)] ++ [(D.hob fk9 os9), (D.hob fk10 os10)]) ++ [(D.hob fk12 os12)])), .no, .no, .no, .no, .no, .no] rfl ?_
      refine we_makeC tk k_Origin hr rfl ?_
      refine wa_cons ?_
      refine we_tup ?_
      refine wa_cons ?_
      refine we_var 2 rfl (by walk_at "vis") rfl ?_
      refine ⟨_, _, rfl, ?_⟩
      refine wa_nil ?_
      refine ⟨lt_ rfl, ?_⟩
      refine ⟨_, _, rfl, ?_⟩
      refine wa_cons ?_
      refine we_tup ?_
      refine wa_cons ?_
      refine we_int ?_
      refine ⟨_, _, rfl, ?_⟩
      refine wa_cons ?_
      refine we_int ?_
      refine ⟨_, _, rfl, ?_⟩
      refine wa_cons ?_
      refine we_int ?_
      refine ⟨_, _, rfl, ?_⟩
      refine wa_cons ?_
      refine we_int ?_
      refine ⟨_, _, rfl, ?_⟩
      refine wa_cons ?_
      refine we_int ?_
      refine ⟨_, _, rfl, ?_⟩
      refine wa_nil ?_
      refine ⟨lt_ rfl, ?_⟩
      refine ⟨_, _, rfl, ?_⟩
      refine wa_nil ?_
      refine ⟨([r3], [IB.i (0 : Int), IB.i (1 : Int), IB.i (2 : Int), IB.i (3 : Int), IB.i (4 : Int)]), rfl, (Out.sb h).imp (fun r23 h _ _ _ _ _ => ?_) (fun x he G_ hG_ => ⟨(hB r4.2).keep hG_, x, rfl, he⟩)⟩
      obtain ⟨_, hv⟩ := hinj _ h; cases hv
    exact .nil
  obtain ⟨G0, hGe, hB⟩ : ∃ G0, G15 = bxH G0 b g r4.2 ∧ ∀ x', GS [bhA b g x', tabA P_law (("law" ++ ".<locals>." : Str) ++ "<lambda>")] (bxH G0 b g x') := ⟨_, (GS.boxH hg 0 rfl).2⟩
  subst hGe
  refine ⟨_, _, rfl, ?_⟩
  refine wa_cons ?_
  refine we_var 5 rfl (by walk_at "vis") rfl ?_
  refine ⟨_, _, rfl, ?_⟩
  refine wa_nil ?_
  obtain ⟨g24, h⟩ := Out.gd h
  refine ⟨(eL eAt) l14.1, congrArg (fun z => [(eL eAt) l14.1, z]) (congrArg (eL eAt) g24.1).symm, g24.2, ?_⟩
  refine ⟨_, rfl, ?_⟩
  refine ⟨fun hc => ?_, fun hc => ?_⟩
  · skip
    have h := (Out.iteb h).1 hc
    -- 196
    refine wb_cons (ws_ret ?_)
    refine we_bl ?_
    refine ⟨_, rfl, ?_⟩
    exact h _
  have h := (Out.iteb h).2 hc
  refine wb_nil ?_
  -- 197
  refine wb_cons (ws_parT 6 7 rfl nd rfl rfl (by walk_at "vis") (by walk_at "vis") ?_)
  refine we_makeC tk k_Origin hr rfl ?_
  refine wa_cons ?_
  refine we_tup ?_
  refine wa_cons ?_
  refine we_var 2 rfl (by walk_at "vis") rfl ?_
  refine ⟨_, _, rfl, ?_⟩
  refine wa_cons ?_
  refine we_meth0 tk cl_Ruler.cls d_Ruler_turned hr ?_
  refine we_var 2 rfl (by walk_at "vis") rfl ?_
  refine ⟨_, rfl, ⟨r3, rfl, (Out.sb h).imp (fun r25 h => ?_) (fun _ he => he.elim)⟩⟩
  refine ⟨_, _, rfl, ?_⟩
  refine wa_nil ?_
  refine ⟨lt_ rfl, ?_⟩
  refine ⟨_, _, rfl, ?_⟩
  refine wa_cons ?_
  refine we_tup ?_
  refine wa_cons ?_
  refine we_int ?_
  refine ⟨_, _, rfl, ?_⟩
  refine wa_cons ?_
  refine we_int ?_
  refine ⟨_, _, rfl, ?_⟩
  refine wa_nil ?_
  refine ⟨lt_ rfl, ?_⟩
  refine ⟨_, _, rfl, ?_⟩
  refine wa_nil ?_
  refine ⟨([r3, r25], [IB.i (0 : Int), IB.i (1 : Int)]), rfl, (Out.sb h).imp (fun r26 h o27 fp1 G28 hP1 hF1 => ?_) (fun _ (he : False) => he.elim)⟩
  have hS : GS [bhA b g r4.2, tabA P_law (("law" ++ ".<locals>." : Str) ++ "<lambda>"), obA C_Origin o27 ns_Origin (fl_Origin C_Ruler r26)] G28 := (hB r4.2).add (obA_ok _ _ _ _) hP1 (fun b_ hb_ => hF1.1 b_ (fun z => nomatch z) hb_) (fun b_ hb_ => (hF1.2 b_ hb_).resolve_left (fun z => nomatch z))
  obtain ⟨G0, hGe, hB⟩ : ∃ G0, G28 = bxH G0 b g r4.2 ∧ ∀ x', GS [bhA b g x', tabA P_law (("law" ++ ".<locals>." : Str) ++ "<lambda>"), obA C_Origin o27 ns_Origin (fl_Origin C_Ruler r26)] (bxH G0 b g x') := ⟨_, (GS.boxH hS 0 rfl).2⟩
  subst hGe
  refine ⟨_, _, rfl, ?_⟩
  refine we_ix (fun _ _ => rfl) ?_
  refine we_lst ?_
  refine wa_cons ?_
  refine we_int ?_
  refine ⟨_, _, rfl, ?_⟩
  refine wa_cons ?_
  refine we_bin ?_
  refine we_int ?_
  refine we_int ?_
  refine ⟨_, _, .inl rfl, .inl rfl, ?_⟩
  refine opw_sub ?_
  refine ⟨_, _, rfl, ?_⟩
  refine wa_cons ?_
  refine we_bl ?_
  refine ⟨_, _, rfl, ?_⟩
  refine wa_nil ?_
  refine ⟨lt_ rfl, ?_⟩
  refine we_cal tk c_law_next hr rfl ?_
  refine wa_cons ?_
  refine we_var 1 rfl (by walk_at "vis") rfl ?_
  refine ⟨_, _, rfl, ?_⟩
  refine wa_cons ?_
  refine we_int ?_
  refine ⟨_, _, rfl, ?_⟩
  refine wa_nil ?_
  refine ⟨(3 : Int), G0, b, g, r4.2, hne, rfl, rfl, (Out.sb h).imp (fun r29 h => ?_) (fun _ he => he.elim)⟩
  obtain ⟨x30, hx30, h⟩ := Out.gt h
  refine ⟨_, _, .inl rfl, .inl rfl, ?_⟩
  refine t_ix (f := eIB) hx30 ?_
  refine ⟨_, _, rfl, lt_ rfl, lt_ rfl, ?_⟩
  change WB _ _ [.sh (D.scr script1), .sh (.adr b), .sh ((eRul C_Ruler) r3), .sh ((eT eIB) x5), .sh ((eL id) (([(D.hob fk6 os6), (D.hob fk7 os7), (D.hob fk8 os8)] ++ [(D.hob fk9 os9), (D.hob fk10 os10)]) ++ [(D.hob fk12 os12)])), .sh ((eL eAt) due13), .sh (.adr o27), .sh (eIB x30), .no, .no, .no] _ _
  refine Hold.h ?_
  refine wb_letH h (fun wrong31 => [.sh (D.scr script1), .sh (.adr b), .sh ((eRul C_Ruler) r3), .sh ((eT eIB) x5), .sh ((eL id) (([(D.hob fk6 os6), (D.hob fk7 os7), (D.hob fk8 os8)] ++ [(D.hob fk9 os9), (D.hob fk10 os10)]) ++ [(D.hob fk12 os12)])), .sh ((eL eAt) due13), .sh (.adr o27), .sh (eIB wrong31), .no, .no, .no]) rfl fun wrong31 h => ?_
  -- 198
  refine wb_cons ?_
  refine Hold.h ?_
  refine ws_setH 4 nd rfl (by walk_at "vis") ?_
  refine we_lst ?_
  refine wa_cons ?_
  refine we_mkLam tb rfl (GS.tab (hB r29.2) 1 rfl) (LamX.lamS_by (by rfl)) rfl (fun _ _ _ _ _ => rfl) (fun fk32 ck32 os32 LK32 => ?_)
  refine ⟨_, _, rfl, ?_⟩
  refine wa_cons ?_
  refine we_mkLamD (b := "_law_a") tb rfl (GS.tab (hB r29.2) 1 rfl) (lamD_by (by rfl)) rfl rfl rfl (fun _ _ _ _ _ _ _ _ => ⟨_, rfl, rfl⟩) (fun fk33 ck33 os33 LK33 => ?_)
  refine ⟨_, _, rfl, ?_⟩
  refine wa_cons ?_
  refine we_mkLamD (b := "_law_b") tb rfl (GS.tab (hB r29.2) 1 rfl) (lamD_by (by rfl)) rfl rfl rfl (fun _ _ _ _ _ _ _ _ => ⟨_, rfl, rfl⟩) (fun fk34 ck34 os34 LK34 => ?_)
  refine ⟨_, _, rfl, ?_⟩
  refine wa_nil ?_
  refine ⟨lt_ rfl, ?_⟩
  refine ⟨lt_ rfl, _, rfl, ?_⟩
  change WB _ _ [.sh (D.scr script1), .sh (.adr b), .sh ((eRul C_Ruler) r3), .sh ((eT eIB) x5), .own ((eL id) [(D.hob fk32 os32), (D.hob fk33 os33), (D.hob fk34 os34)]), .sh ((eL eAt) due13), .sh (.adr o27), .sh (eIB wrong31), .no, .no, .no] _ _
  -- 199
  refine wb_cons ?_
  refine Hold.h ?_
  refine ws_setH 4 nd rfl (by walk_at "vis") ?_
  refine we_bin ?_
  refine we_var 4 rfl (by walk_at "vis") rfl ?_
  refine we_lst ?_
  refine wa_cons ?_
  refine we_mkLamD (b := "_law_c") tb rfl (GS.tab (hB r29.2) 1 rfl) (lamD_by (by rfl)) rfl rfl rfl (fun _ _ _ _ _ _ _ _ => ⟨_, rfl, rfl⟩) (fun fk35 ck35 os35 LK35 => ?_)
  refine ⟨_, _, rfl, ?_⟩
  refine wa_cons ?_
  refine we_mkLamD (b := "_law_d") tb rfl (GS.tab (hB r29.2) 1 rfl) (lamD_by (by rfl)) rfl rfl rfl (fun _ _ _ _ _ _ _ _ => ⟨_, rfl, rfl⟩) (fun fk36 ck36 os36 LK36 => ?_)
  refine ⟨_, _, rfl, ?_⟩
  refine wa_nil ?_
  refine ⟨lt_ rfl, ?_⟩
  refine ⟨_, _, .inl rfl, .inl rfl, ?_⟩
  refine t_cat (f := id) [(D.hob fk32 os32), (D.hob fk33 os33), (D.hob fk34 os34)] [(D.hob fk35 os35), (D.hob fk36 os36)] (Nat.le_of_ble_eq_true rfl) ?_
  refine ⟨lt_ rfl, _, rfl, ?_⟩
  change WB _ _ [.sh (D.scr script1), .sh (.adr b), .sh ((eRul C_Ruler) r3), .sh ((eT eIB) x5), .own ((eL id) ([(D.hob fk32 os32), (D.hob fk33 os33), (D.hob fk34 os34)] ++ [(D.hob fk35 os35), (D.hob fk36 os36)])), .sh ((eL eAt) due13), .sh (.adr o27), .sh (eIB wrong31), .no, .no, .no] _ _
  -- 200
  refine wb_cons (ws_if ?_)
  refine wt_not ?_
  refine wt_val (fun _ => rfl) ?_
  refine we_cal tk c_law_alike_1 hr rfl ?_
  refine wa_cons ?_
  refine we_frzS 4 rfl rfl ?_
  refine we_lcLamT (i := 10) (ds := [D.hob fk32 os32, D.hob fk33 os33, D.hob fk34 os34, D.hob fk35 os35, D.hob fk36 os36]) (t0 := r26) [.sh (D.scr script1), .sh (.adr b), .sh ((eRul C_Ruler) r3), .sh ((eT eIB) x5), .sh ((eL id) ([(D.hob fk32 os32), (D.hob fk33 os33), (D.hob fk34 os34)] ++ [(D.hob fk35 os35), (D.hob fk36 os36)])), .sh ((eL eAt) due13), .sh (.adr o27), .sh (eIB wrong31), .no, .no, .no] eAt (fun (t : S_Origin) G' => GS [bhA b g r29.2, tabA P_law (("law" ++ ".<locals>." : Str) ++ "<lambda>"), obA C_Origin o27 ns_Origin (fl_Origin C_Ruler t)] G') h rfl nd (blkOk_by (by rfl)) rfl ?_
  refine wi_lst ?_
  refine we_var 4 rfl (by walk_at "vis") rfl ?_
  refine ⟨_, _, rfl, fun _ => ?_⟩
  refine ⟨rfl, (hB r29.2), Nat.le_of_ble_eq_true rfl, Wk.refl _, rfl, ?_, fun l37 G38 hg h => ?_⟩
  · skip
    refine .cons ?_ ?_
    · skip
      refine lam_okS (k := 12) (cx := cx) eAt (fun a => some (At.i a)) (fun (t : S_Origin) G' => GS [bhA b g r29.2, tabA P_law (("law" ++ ".<locals>." : Str) ++ "<lambda>"), obA C_Origin o27 ns_Origin (fl_Origin C_Ruler t)] G') l_law_fail hr LK32 (fun Y t G Q' E' hg hY hinj h => ?_)
      obtain ⟨G0, hGe, hB⟩ : ∃ G0, G = bxH G0 b g r29.2 ∧ ∀ x', GS [bhA b g x', tabA P_law (("law" ++ ".<locals>." : Str) ++ "<lambda>"), obA C_Origin o27 ns_Origin (fl_Origin C_Ruler t)] (bxH G0 b g x') := ⟨_, (GS.boxH hg 0 rfl).2⟩
      subst hGe
      obtain ⟨A1, outer1, s1, H1, E1, f1, c1, F1, T1, hr, tk, rfl⟩ := hY
      refine we_env [.sh (D.scr script1), .sh (.adr b), .sh ((eRul C_Ruler) r3), .sh ((eT eIB) x5), .sh ((eL id) ([(D.hob fk32 os32), (D.hob fk33 os33), (D.hob fk34 os34)] ++ [(D.hob fk35 os35), (D.hob fk36 os36)])), .sh ((eL eAt) due13), .sh (.adr o27), .sh (eIB wrong31), .no, .no, .no] rfl ?_
      refine we_methM tk cl_Origin.cls d_Origin_see hr rfl ?_
      refine we_var 6 rfl (by walk_at "vis") rfl ?_
      obtain ⟨_, _, hP39, hu40⟩ := (hB r29.2).at 2 rfl
      refine ⟨t, _, _, rfl, hP39, ?_⟩
      refine wa_cons ?_
      refine we_var 7 rfl (by walk_at "vis") rfl ?_
      refine ⟨_, _, rfl, ?_⟩
      refine wa_cons ?_
      refine we_int ?_
      refine ⟨_, _, rfl, ?_⟩
      refine wa_nil ?_
      obtain ⟨_, _, hP41, hu42⟩ := (hB r29.2).at 2 rfl
      refine ⟨(wrong31, (3 : Int)), _, rfl, hP41, (Out.sb h).imp (fun r43 h fp1 G44 hP1 hF1 => ?_) (fun x he fp' G' hP2 hF2 => ⟨hu42 _ _ _ (obA_ok _ _ _ _) hP2 hF2, x, rfl, he⟩)⟩
      have hS : GS [bhA b g r29.2, tabA P_law (("law" ++ ".<locals>." : Str) ++ "<lambda>"), obA C_Origin o27 ns_Origin (fl_Origin C_Ruler r43.2)] G44 := hu42 _ _ _ (obA_ok _ _ _ _) hP1 hF1
      obtain ⟨G0, hGe, hB⟩ : ∃ G0, G44 = bxH G0 b g r29.2 ∧ ∀ x', GS [bhA b g x', tabA P_law (("law" ++ ".<locals>." : Str) ++ "<lambda>"), obA C_Origin o27 ns_Origin (fl_Origin C_Ruler r43.2)] (bxH G0 b g x') := ⟨_, (GS.boxH hS 0 rfl).2⟩
      subst hGe
      exact ⟨(r43.1, r43.2), (hB r29.2), h, fun _ hv => (by cases hv; rfl)⟩
    refine .cons ?_ ?_
    · skip
      refine lam_okS (k := 12) (cx := cx) eAt (fun a => some (At.i a)) (fun (t : S_Origin) G' => GS [bhA b g r29.2, tabA P_law (("law" ++ ".<locals>." : Str) ++ "<lambda>"), obA C_Origin o27 ns_Origin (fl_Origin C_Ruler t)] G') l_law_fail hr LK33 (fun Y t G Q' E' hg hY hinj h => ?_)
      obtain ⟨G0, hGe, hB⟩ : ∃ G0, G = bxH G0 b g r29.2 ∧ ∀ x', GS [bhA b g x', tabA P_law (("law" ++ ".<locals>." : Str) ++ "<lambda>"), obA C_Origin o27 ns_Origin (fl_Origin C_Ruler t)] (bxH G0 b g x') := ⟨_, (GS.boxH hg 0 rfl).2⟩
      subst hGe
      obtain ⟨A1, outer1, s1, H1, E1, f1, c1, F1, T1, hr, tk, rfl⟩ := hY
      refine we_env [.sh (D.scr script1), .sh (.adr b), .sh ((eRul C_Ruler) r3), .sh ((eT eIB) x5), .sh ((eL id) ([(D.hob fk32 os32), (D.hob fk33 os33), (D.hob fk34 os34)] ++ [(D.hob fk35 os35), (D.hob fk36 os36)])), .sh ((eL eAt) due13), .sh (.adr o27), .sh (eIB wrong31), .no, .no, .no] rfl ?_
      refine we_methM tk cl_Origin.cls d_Origin_miss hr rfl ?_
      refine we_var 6 rfl (by walk_at "vis") rfl ?_
      obtain ⟨_, _, hP45, hu46⟩ := (hB r29.2).at 2 rfl
      refine ⟨t, _, _, rfl, hP45, ?_⟩
      refine wa_cons ?_
      refine we_var 7 rfl (by walk_at "vis") rfl ?_
      refine ⟨_, _, rfl, ?_⟩
      refine wa_cons ?_
      refine we_int ?_
      refine ⟨_, _, rfl, ?_⟩
      refine wa_nil ?_
      obtain ⟨_, _, hP47, hu48⟩ := (hB r29.2).at 2 rfl
      refine ⟨(wrong31, (3 : Int)), _, rfl, hP47, (Out.sb h).imp (fun r49 h fp1 G50 hP1 hF1 => ?_) (fun x he fp' G' hP2 hF2 => ⟨hu48 _ _ _ (obA_ok _ _ _ _) hP2 hF2, x, rfl, he⟩)⟩
      have hS : GS [bhA b g r29.2, tabA P_law (("law" ++ ".<locals>." : Str) ++ "<lambda>"), obA C_Origin o27 ns_Origin (fl_Origin C_Ruler r49.2)] G50 := hu48 _ _ _ (obA_ok _ _ _ _) hP1 hF1
      obtain ⟨G0, hGe, hB⟩ : ∃ G0, G50 = bxH G0 b g r29.2 ∧ ∀ x', GS [bhA b g x', tabA P_law (("law" ++ ".<locals>." : Str) ++ "<lambda>"), obA C_Origin o27 ns_Origin (fl_Origin C_Ruler r49.2)] (bxH G0 b g x') := ⟨_, (GS.boxH hS 0 rfl).2⟩
      subst hGe
      exact ⟨(r49.1, r49.2), (hB r29.2), h, fun _ hv => (by cases hv; rfl)⟩
    refine .cons ?_ ?_
    · skip
      refine lam_okS (k := 10) (cx := cx) eAt (fun (_ : Unit) => (none : Option At)) (fun (t : S_Origin) G' => GS [bhA b g r29.2, tabA P_law (("law" ++ ".<locals>." : Str) ++ "<lambda>"), obA C_Origin o27 ns_Origin (fl_Origin C_Ruler t)] G') l_law_fail hr LK34 (fun Y t G Q' E' hg hY hinj h => ?_)
      obtain ⟨G0, hGe, hB⟩ : ∃ G0, G = bxH G0 b g r29.2 ∧ ∀ x', GS [bhA b g x', tabA P_law (("law" ++ ".<locals>." : Str) ++ "<lambda>"), obA C_Origin o27 ns_Origin (fl_Origin C_Ruler t)] (bxH G0 b g x') := ⟨_, (GS.boxH hg 0 rfl).2⟩
      subst hGe
      obtain ⟨A1, outer1, s1, H1, E1, f1, c1, F1, T1, hr, tk, rfl⟩ := hY
      refine we_env [.sh (D.scr script1), .sh (.adr b), .sh ((eRul C_Ruler) r3), .sh ((eT eIB) x5), .sh ((eL id) ([(D.hob fk32 os32), (D.hob fk33 os33), (D.hob fk34 os34)] ++ [(D.hob fk35 os35), (D.hob fk36 os36)])), .sh ((eL eAt) due13), .sh (.adr o27), .sh (eIB wrong31), .no, .no, .no] rfl ?_
      refine we_methC tk cl_Origin.cls d_Origin_numbers hr rfl ?_
      refine we_var 6 rfl (by walk_at "vis") rfl ?_
      obtain ⟨_, _, hP51, hu52⟩ := (hB r29.2).at 2 rfl
      refine ⟨t, _, _, rfl, hP51, ?_⟩
      refine wa_cons ?_
      refine we_var 7 rfl (by walk_at "vis") rfl ?_
      refine ⟨_, _, rfl, ?_⟩
      refine wa_nil ?_
      obtain ⟨_, _, hP53, hu54⟩ := (hB r29.2).at 2 rfl
      refine ⟨wrong31, _, rfl, hP53, (Out.sb h).imp (fun r55 h => ?_) (fun x he => ⟨(hB r29.2), x, rfl, he⟩)⟩
      obtain ⟨_, hv⟩ := hinj _ h; cases hv
    refine .cons ?_ ?_
    · skip
      refine lam_okS (k := 12) (cx := cx) eAt (fun a => some (At.i a)) (fun (t : S_Origin) G' => GS [bhA b g r29.2, tabA P_law (("law" ++ ".<locals>." : Str) ++ "<lambda>"), obA C_Origin o27 ns_Origin (fl_Origin C_Ruler t)] G') l_law_fail hr LK35 (fun Y t G Q' E' hg hY hinj h => ?_)
      obtain ⟨G0, hGe, hB⟩ : ∃ G0, G = bxH G0 b g r29.2 ∧ ∀ x', GS [bhA b g x', tabA P_law (("law" ++ ".<locals>." : Str) ++ "<lambda>"), obA C_Origin o27 ns_Origin (fl_Origin C_Ruler t)] (bxH G0 b g x') := ⟨_, (GS.boxH hg 0 rfl).2⟩
      subst hGe
      obtain ⟨A1, outer1, s1, H1, E1, f1, c1, F1, T1, hr, tk, rfl⟩ := hY
      refine we_env [.sh (D.scr script1), .sh (.adr b), .sh ((eRul C_Ruler) r3), .sh ((eT eIB) x5), .sh ((eL id) ([(D.hob fk32 os32), (D.hob fk33 os33), (D.hob fk34 os34)] ++ [(D.hob fk35 os35), (D.hob fk36 os36)])), .sh ((eL eAt) due13), .sh (.adr o27), .sh (eIB wrong31), .no, .no, .no] rfl ?_
      refine we_methM tk cl_Origin.cls d_Origin_see hr rfl ?_
      refine we_var 6 rfl (by walk_at "vis") rfl ?_
      obtain ⟨_, _, hP56, hu57⟩ := (hB r29.2).at 2 rfl
      refine ⟨t, _, _, rfl, hP56, ?_⟩
      refine wa_cons ?_
      refine we_int ?_
      refine ⟨_, _, rfl, ?_⟩
      refine wa_cons ?_
      refine we_int ?_
      refine ⟨_, _, rfl, ?_⟩
      refine wa_nil ?_
      obtain ⟨_, _, hP58, hu59⟩ := (hB r29.2).at 2 rfl
      refine ⟨(IB.i (0 : Int), (77 : Int)), _, rfl, hP58, (Out.sb h).imp (fun r60 h fp1 G61 hP1 hF1 => ?_) (fun x he fp' G' hP2 hF2 => ⟨hu59 _ _ _ (obA_ok _ _ _ _) hP2 hF2, x, rfl, he⟩)⟩
      have hS : GS [bhA b g r29.2, tabA P_law (("law" ++ ".<locals>." : Str) ++ "<lambda>"), obA C_Origin o27 ns_Origin (fl_Origin C_Ruler r60.2)] G61 := hu59 _ _ _ (obA_ok _ _ _ _) hP1 hF1
      obtain ⟨G0, hGe, hB⟩ : ∃ G0, G61 = bxH G0 b g r29.2 ∧ ∀ x', GS [bhA b g x', tabA P_law (("law" ++ ".<locals>." : Str) ++ "<lambda>"), obA C_Origin o27 ns_Origin (fl_Origin C_Ruler r60.2)] (bxH G0 b g x') := ⟨_, (GS.boxH hS 0 rfl).2⟩
      subst hGe
      exact ⟨(r60.1, r60.2), (hB r29.2), h, fun _ hv => (by cases hv; rfl)⟩
    refine .cons ?_ ?_
    · skip
      refine lam_okS (k := 12) (cx := cx) eAt (fun a => some (At.i a)) (fun (t : S_Origin) G' => GS [bhA b g r29.2, tabA P_law (("law" ++ ".<locals>." : Str) ++ "<lambda>"), obA C_Origin o27 ns_Origin (fl_Origin C_Ruler t)] G') l_law_fail hr LK36 (fun Y t G Q' E' hg hY hinj h => ?_)
      obtain ⟨G0, hGe, hB⟩ : ∃ G0, G = bxH G0 b g r29.2 ∧ ∀ x', GS [bhA b g x', tabA P_law (("law" ++ ".<locals>." : Str) ++ "<lambda>"), obA C_Origin o27 ns_Origin (fl_Origin C_Ruler t)] (bxH G0 b g x') := ⟨_, (GS.boxH hg 0 rfl).2⟩
      subst hGe
      obtain ⟨A1, outer1, s1, H1, E1, f1, c1, F1, T1, hr, tk, rfl⟩ := hY
      refine we_env [.sh (D.scr script1), .sh (.adr b), .sh ((eRul C_Ruler) r3), .sh ((eT eIB) x5), .sh ((eL id) ([(D.hob fk32 os32), (D.hob fk33 os33), (D.hob fk34 os34)] ++ [(D.hob fk35 os35), (D.hob fk36 os36)])), .sh ((eL eAt) due13), .sh (.adr o27), .sh (eIB wrong31), .no, .no, .no] rfl ?_
      refine we_methM tk cl_Origin.cls d_Origin_miss hr rfl ?_
      refine we_var 6 rfl (by walk_at "vis") rfl ?_
      obtain ⟨_, _, hP62, hu63⟩ := (hB r29.2).at 2 rfl
      refine ⟨t, _, _, rfl, hP62, ?_⟩
      refine wa_cons ?_
      refine we_int ?_
      refine ⟨_, _, rfl, ?_⟩
      refine wa_cons ?_
      refine we_int ?_
      refine ⟨_, _, rfl, ?_⟩
      refine wa_nil ?_
      obtain ⟨_, _, hP64, hu65⟩ := (hB r29.2).at 2 rfl
      refine ⟨(IB.i (1 : Int), (4 : Int)), _, rfl, hP64, (Out.sb h).imp (fun r66 h fp1 G67 hP1 hF1 => ?_) (fun x he fp' G' hP2 hF2 => ⟨hu65 _ _ _ (obA_ok _ _ _ _) hP2 hF2, x, rfl, he⟩)⟩
      have hS : GS [bhA b g r29.2, tabA P_law (("law" ++ ".<locals>." : Str) ++ "<lambda>"), obA C_Origin o27 ns_Origin (fl_Origin C_Ruler r66.2)] G67 := hu65 _ _ _ (obA_ok _ _ _ _) hP1 hF1
      obtain ⟨G0, hGe, hB⟩ : ∃ G0, G67 = bxH G0 b g r29.2 ∧ ∀ x', GS [bhA b g x', tabA P_law (("law" ++ ".<locals>." : Str) ++ "<lambda>"), obA C_Origin o27 ns_Origin (fl_Origin C_Ruler r66.2)] (bxH G0 b g x') := ⟨_, (GS.boxH hS 0 rfl).2⟩
      subst hGe
      exact ⟨(r66.1, r66.2), (hB r29.2), h, fun _ hv => (by cases hv; rfl)⟩
    exact .nil
  obtain ⟨G0, hGe, hB⟩ : ∃ G0, G38 = bxH G0 b g r29.2 ∧ ∀ x', GS [bhA b g x', tabA P_law (("law" ++ ".<locals>." : Str) ++ "<lambda>"), obA C_Origin o27 ns_Origin (fl_Origin C_Ruler l37.2)] (bxH G0 b g x') := ⟨_, (GS.boxH hg 0 rfl).2⟩
  subst hGe
  refine ⟨_, _, rfl, ?_⟩
  refine wa_cons ?_
  refine we_bin ?_
  refine we_bin ?_
  refine we_lst ?_
  refine wa_cons ?_
  refine we_str ?_
  refine ⟨_, _, rfl, ?_⟩
  refine wa_nil ?_
  refine ⟨lt_ rfl, ?_⟩
  refine we_int ?_
  obtain ⟨g68, h⟩ := Out.gd h
  refine ⟨_, _, .inl rfl, .inl rfl, ?_⟩
  refine t_rep (f := eAt) (At.s z_InvalidNumber) g68 ?_
  refine we_lst ?_
  refine wa_cons ?_
  refine we_str ?_
  refine ⟨_, _, rfl, ?_⟩
  refine wa_cons ?_
  refine we_int ?_
  refine ⟨_, _, rfl, ?_⟩
  refine wa_nil ?_
  refine ⟨lt_ rfl, ?_⟩
  obtain ⟨g69, h⟩ := Out.gd h
  refine ⟨_, _, .inl rfl, .inl rfl, ?_⟩
  refine t_cat (f := eAt) (List.replicate ((3 : Int)).toNat (At.s z_InvalidNumber)) [At.s z_NoPlace, At.i (1 : Int)] g69 ?_
  refine ⟨_, _, rfl, ?_⟩
  refine wa_nil ?_
  obtain ⟨g70, h⟩ := Out.gd h
  refine ⟨(eL eAt) l37.1, congrArg (fun z => [(eL eAt) l37.1, z]) (congrArg (eL eAt) g70.1).symm, g70.2, ?_⟩
  refine ⟨_, rfl, ?_⟩
  refine ⟨fun hc => ?_, fun hc => ?_⟩
  · skip
    have h := (Out.iteb h).1 hc
    -- 201
    refine wb_cons (ws_ret ?_)
    refine we_bl ?_
    refine ⟨_, rfl, ?_⟩
    exact h _
  have h := (Out.iteb h).2 hc
  refine wb_nil ?_
  -- 202
  refine wb_cons (ws_expr ?_)
  refine we_appendF ?_
  refine we_propC cl_Origin.cls p_Origin_seen hr ?_
  refine we_var 6 rfl (by walk_at "vis") rfl ?_
  obtain ⟨_, _, hP71, hu72⟩ := (hB r29.2).at 2 rfl
  refine ⟨l37.2, _, _, rfl, hP71, ?_⟩
  obtain ⟨g73, h⟩ := Out.gd h
  refine ⟨_, rfl, by rw [List.length_map]; exact g73, ?_⟩
  -- 203
  refine wb_cons (ws_expr ?_)
  refine we_clearF ?_
  refine we_methC tk cl_Origin.cls d_Origin_numbers hr rfl ?_
  refine we_var 6 rfl (by walk_at "vis") rfl ?_
  obtain ⟨_, _, hP74, hu75⟩ := (hB r29.2).at 2 rfl
  refine ⟨l37.2, _, _, rfl, hP74, ?_⟩
  refine wa_cons ?_
  refine we_int ?_
  refine ⟨_, _, rfl, ?_⟩
  refine wa_nil ?_
  obtain ⟨_, _, hP76, hu77⟩ := (hB r29.2).at 2 rfl
  refine ⟨IB.i (0 : Int), _, rfl, hP76, (Out.sb h).imp (fun r78 h => ?_) (fun _ (he : False) => he.elim)⟩
  refine ⟨_, rfl, ?_⟩
  -- 204
  refine wb_cons ?_
  refine Hold.h ?_
  refine ws_setH 8 nd rfl (by walk_at "vis") ?_
  refine we_lst ?_
  refine wa_cons ?_
  refine we_propC cl_Origin.cls p_Origin_candidates hr ?_
  refine we_var 6 rfl (by walk_at "vis") rfl ?_
  obtain ⟨_, _, hP79, hu80⟩ := (hB r29.2).at 2 rfl
  refine ⟨l37.2, _, _, rfl, hP79, ?_⟩
  refine ⟨_, _, rfl, ?_⟩
  refine wa_cons ?_
  refine we_propC cl_Origin.cls p_Origin_seen hr ?_
  refine we_var 6 rfl (by walk_at "vis") rfl ?_
  obtain ⟨_, _, hP81, hu82⟩ := (hB r29.2).at 2 rfl
  refine ⟨l37.2, _, _, rfl, hP81, ?_⟩
  refine ⟨_, _, rfl, ?_⟩
  refine wa_cons ?_
  refine we_methC tk cl_Origin.cls d_Origin_numbers hr rfl ?_
  refine we_var 6 rfl (by walk_at "vis") rfl ?_
  obtain ⟨_, _, hP83, hu84⟩ := (hB r29.2).at 2 rfl
  refine ⟨l37.2, _, _, rfl, hP83, ?_⟩
  refine wa_cons ?_
  refine we_int ?_
  refine ⟨_, _, rfl, ?_⟩
  refine wa_nil ?_
  obtain ⟨_, _, hP85, hu86⟩ := (hB r29.2).at 2 rfl
  refine ⟨IB.i (0 : Int), _, rfl, hP85, (Out.sb h).imp (fun r87 h => ?_) (fun _ (he : False) => he.elim)⟩
  refine ⟨_, _, rfl, ?_⟩
  refine wa_cons ?_
  refine we_methC tk cl_Origin.cls d_Origin_numbers hr rfl ?_
  refine we_var 6 rfl (by walk_at "vis") rfl ?_
  obtain ⟨_, _, hP88, hu89⟩ := (hB r29.2).at 2 rfl
  refine ⟨l37.2, _, _, rfl, hP88, ?_⟩
  refine wa_cons ?_
  refine we_int ?_
  refine ⟨_, _, rfl, ?_⟩
  refine wa_nil ?_
  obtain ⟨_, _, hP90, hu91⟩ := (hB r29.2).at 2 rfl
  refine ⟨IB.i (1 : Int), _, rfl, hP90, (Out.sb h).imp (fun r92 h => ?_) (fun _ (he : False) => he.elim)⟩
  refine ⟨_, _, rfl, ?_⟩
  refine wa_cons ?_
  refine we_methC0 tk cl_Origin.cls d_Origin_telling hr rfl ?_
  refine we_var 6 rfl (by walk_at "vis") rfl ?_
  obtain ⟨_, _, hP93, hu94⟩ := (hB r29.2).at 2 rfl
  refine ⟨l37.2, _, _, rfl, hP93, (Out.sb h).imp (fun r95 h => ?_) (fun _ (he : False) => he.elim)⟩
  refine ⟨_, _, rfl, ?_⟩
  refine wa_nil ?_
  refine ⟨lt_ rfl, ?_⟩
  refine ⟨lt_ rfl, _, rfl, ?_⟩
  change WB _ _ [.sh (D.scr script1), .sh (.adr b), .sh ((eRul C_Ruler) r3), .sh ((eT eIB) x5), .sh ((eL id) ([(D.hob fk32 os32), (D.hob fk33 os33), (D.hob fk34 os34)] ++ [(D.hob fk35 os35), (D.hob fk36 os36)])), .sh ((eL eAt) due13), .sh (.adr o27), .sh (eIB wrong31), .own ((fun p : (List ((Int × Int × Bool)) × List ((S × Int × Int)) × List Int × List Int × Int) => D.lst [(eT (eP3 eI eI eB)) p.1, (eL (eP3 eZ eI eI)) p.2.1, (eL eI) p.2.2.1, (eL eI) p.2.2.2.1, eI p.2.2.2.2]) (m_Origin_candidates l37.2, m_Origin_seen l37.2, r87, r92, r95)), .no, .no] _ _
  -- 205
  refine wb_cons (ws_if ?_)
  refine wt_not ?_
  refine wt_val (fun _ => rfl) ?_
  refine we_cal tk c_law_alike_3 hr rfl ?_
  refine wa_cons ?_
  refine we_var 8 rfl (by walk_at "vis") rfl ?_
  refine ⟨_, _, rfl, ?_⟩
  refine wa_cons ?_
  refine we_lst ?_
  refine wa_cons ?_
  refine we_tup ?_
  refine wa_cons ?_
  refine we_tup ?_
  refine wa_cons ?_
  refine we_int ?_
  refine ⟨_, _, rfl, ?_⟩
  refine wa_cons ?_
  refine we_int ?_
  refine ⟨_, _, rfl, ?_⟩
  refine wa_cons ?_
  refine we_bl ?_
  refine ⟨_, _, rfl, ?_⟩
  refine wa_nil ?_
  refine ⟨lt_ rfl, ?_⟩
  refine ⟨_, _, rfl, ?_⟩
  refine wa_nil ?_
  refine ⟨lt_ rfl, ?_⟩
  refine ⟨_, _, rfl, ?_⟩
  refine wa_cons ?_
  refine we_lst ?_
  refine wa_cons ?_
  refine we_tup ?_
  refine wa_cons ?_
  refine we_str ?_
  refine ⟨_, _, rfl, ?_⟩
  refine wa_cons ?_
  refine we_int ?_
  refine ⟨_, _, rfl, ?_⟩
  refine wa_cons ?_
  refine we_int ?_
  refine ⟨_, _, rfl, ?_⟩
  refine wa_nil ?_
  refine ⟨lt_ rfl, ?_⟩
  refine ⟨_, _, rfl, ?_⟩
  refine wa_nil ?_
  refine ⟨lt_ rfl, ?_⟩
  refine ⟨_, _, rfl, ?_⟩
  refine wa_cons ?_
  refine we_lst ?_
  refine wa_cons ?_
  refine we_int ?_
  refine ⟨_, _, rfl, ?_⟩
  refine wa_nil ?_
  refine ⟨lt_ rfl, ?_⟩
  refine ⟨_, _, rfl, ?_⟩
  refine wa_cons ?_
  refine we_lst ?_
  refine wa_cons ?_
  refine we_int ?_
  refine ⟨_, _, rfl, ?_⟩
  refine wa_nil ?_
  refine ⟨lt_ rfl, ?_⟩
  refine ⟨_, _, rfl, ?_⟩
  refine wa_cons ?_
  refine we_int ?_
  refine ⟨_, _, rfl, ?_⟩
  refine wa_nil ?_
  refine ⟨lt_ rfl, ?_⟩
  refine ⟨_, _, rfl, ?_⟩
  refine wa_nil ?_
  obtain ⟨g96, h⟩ := Out.gd h
  refine ⟨(fun p : (List ((Int × Int × Bool)) × List ((S × Int × Int)) × List Int × List Int × Int) => D.lst [(eT (eP3 eI eI eB)) p.1, (eL (eP3 eZ eI eI)) p.2.1, (eL eI) p.2.2.1, (eL eI) p.2.2.2.1, eI p.2.2.2.2]) (m_Origin_candidates l37.2, m_Origin_seen l37.2, r87, r92, r95), congrArg (fun z => [(fun p : (List ((Int × Int × Bool)) × List ((S × Int × Int)) × List Int × List Int × Int) => D.lst [(eT (eP3 eI eI eB)) p.1, (eL (eP3 eZ eI eI)) p.2.1, (eL eI) p.2.2.1, (eL eI) p.2.2.2.1, eI p.2.2.2.2]) (m_Origin_candidates l37.2, m_Origin_seen l37.2, r87, r92, r95), z]) (congrArg (fun p : (List ((Int × Int × Bool)) × List ((S × Int × Int)) × List Int × List Int × Int) => D.lst [(eT (eP3 eI eI eB)) p.1, (eL (eP3 eZ eI eI)) p.2.1, (eL eI) p.2.2.1, (eL eI) p.2.2.2.1, eI p.2.2.2.2]) g96.1).symm, g96.2, ?_⟩
  refine ⟨_, rfl, ?_⟩
  refine ⟨fun hc => ?_, fun hc => ?_⟩
  · skip
    have h := (Out.iteb h).1 hc
    -- 206
    refine wb_cons (ws_ret ?_)
    refine we_bl ?_
    refine ⟨_, rfl, ?_⟩
    exact h _
  have h := (Out.iteb h).2 hc
  refine wb_nil ?_
  -- 207
  refine wb_cons ?_
  refine Hold.h ?_
  refine ws_setH 9 nd rfl (by walk_at "vis") ?_
  refine we_makeC tk k_Origin hr rfl ?_
  refine wa_cons ?_
  refine we_tup ?_
  refine wa_cons ?_
  refine we_var 2 rfl (by walk_at "vis") rfl ?_
  refine ⟨_, _, rfl, ?_⟩
  refine wa_nil ?_
  refine ⟨lt_ rfl, ?_⟩
  refine ⟨_, _, rfl, ?_⟩
  refine wa_cons ?_
  refine we_tup ?_
  refine wa_cons ?_
  refine we_int ?_
  refine ⟨_, _, rfl, ?_⟩
  refine wa_nil ?_
  refine ⟨lt_ rfl, ?_⟩
  refine ⟨_, _, rfl, ?_⟩
  refine wa_nil ?_
  refine ⟨([r3], [IB.i (0 : Int)]), rfl, (Out.sb h).imp (fun r97 h o98 fp1 G99 hP1 hF1 => ?_) (fun _ (he : False) => he.elim)⟩
  have hS : GS [bhA b g r29.2, tabA P_law (("law" ++ ".<locals>." : Str) ++ "<lambda>"), obA C_Origin o27 ns_Origin (fl_Origin C_Ruler l37.2), obA C_Origin o98 ns_Origin (fl_Origin C_Ruler r97)] G99 := (hB r29.2).add (obA_ok _ _ _ _) hP1 (fun b_ hb_ => hF1.1 b_ (fun z => nomatch z) hb_) (fun b_ hb_ => (hF1.2 b_ hb_).resolve_left (fun z => nomatch z))
  obtain ⟨G0, hGe, hB⟩ : ∃ G0, G99 = bxH G0 b g r29.2 ∧ ∀ x', GS [bhA b g x', tabA P_law (("law" ++ ".<locals>." : Str) ++ "<lambda>"), obA C_Origin o27 ns_Origin (fl_Origin C_Ruler l37.2), obA C_Origin o98 ns_Origin (fl_Origin C_Ruler r97)] (bxH G0 b g x') := ⟨_, (GS.boxH hS 0 rfl).2⟩
  subst hGe
  refine ⟨lt_ rfl, _, rfl, ?_⟩
  change WB _ _ [.sh (D.scr script1), .sh (.adr b), .sh ((eRul C_Ruler) r3), .sh ((eT eIB) x5), .sh ((eL id) ([(D.hob fk32 os32), (D.hob fk33 os33), (D.hob fk34 os34)] ++ [(D.hob fk35 os35), (D.hob fk36 os36)])), .sh ((eL eAt) due13), .sh (.adr o27), .sh (eIB wrong31), .sh ((fun p : (List ((Int × Int × Bool)) × List ((S × Int × Int)) × List Int × List Int × Int) => D.lst [(eT (eP3 eI eI eB)) p.1, (eL (eP3 eZ eI eI)) p.2.1, (eL eI) p.2.2.1, (eL eI) p.2.2.2.1, eI p.2.2.2.2]) (m_Origin_candidates l37.2, m_Origin_seen l37.2, r87, r92, r95)), .sh (.adr o98), .no] _ _
  -- 208
  refine wb_cons (ws_ret ?_)
  refine we_cal tk c_law_alike_2 hr rfl ?_
  refine wa_cons ?_
  refine we_lst ?_
  refine wa_cons ?_
  refine we_ix (fun _ _ => rfl) ?_
  refine we_propC cl_Origin.cls p_Origin_candidates hr ?_
  refine we_var 9 rfl (by walk_at "vis") rfl ?_
  obtain ⟨_, _, hP100, hu101⟩ := (hB r29.2).at 3 rfl
  refine ⟨r97, _, _, rfl, hP100, ?_⟩
  refine we_un rfl ?_
  refine we_int ?_
  refine ⟨_, rfl, ?_⟩
  obtain ⟨x102, hx102, h⟩ := Out.gt h
  refine ⟨_, _, .inl rfl, .inl rfl, ?_⟩
  refine t_ixT (f := (eP3 eI eI eB)) hx102 ?_
  refine ⟨_, _, rfl, ?_⟩
  refine wa_cons ?_
  refine we_methC tk cl_Origin.cls d_Origin_numbers hr rfl ?_
  refine we_var 9 rfl (by walk_at "vis") rfl ?_
  obtain ⟨_, _, hP103, hu104⟩ := (hB r29.2).at 3 rfl
  refine ⟨r97, _, _, rfl, hP103, ?_⟩
  refine wa_cons ?_
  refine we_int ?_
  refine ⟨_, _, rfl, ?_⟩
  refine wa_nil ?_
  obtain ⟨_, _, hP105, hu106⟩ := (hB r29.2).at 3 rfl
  refine ⟨IB.i (0 : Int), _, rfl, hP105, (Out.sb h).imp (fun r107 h => ?_) (fun _ (he : False) => he.elim)⟩
  refine ⟨_, _, rfl, ?_⟩
  refine wa_cons ?_
  refine we_methM tk cl_Origin.cls d_Origin_see hr rfl ?_
  refine we_var 9 rfl (by walk_at "vis") rfl ?_
  obtain ⟨_, _, hP108, hu109⟩ := (hB r29.2).at 3 rfl
  refine ⟨r97, _, _, rfl, hP108, ?_⟩
  refine wa_cons ?_
  refine we_int ?_
  refine ⟨_, _, rfl, ?_⟩
  refine wa_cons ?_
  refine we_int ?_
  refine ⟨_, _, rfl, ?_⟩
  refine wa_nil ?_
  obtain ⟨_, _, hP110, hu111⟩ := (hB r29.2).at 3 rfl
  refine ⟨(IB.i (0 : Int), (9 : Int)), _, rfl, hP110, (Out.sb h).imp (fun r112 h fp1 G113 hP1 hF1 => ?_) (fun _ (he : False) => he.elim)⟩
  have hS : GS [bhA b g r29.2, tabA P_law (("law" ++ ".<locals>." : Str) ++ "<lambda>"), obA C_Origin o27 ns_Origin (fl_Origin C_Ruler l37.2), obA C_Origin o98 ns_Origin (fl_Origin C_Ruler r112.2)] G113 := hu111 _ _ _ (obA_ok _ _ _ _) hP1 hF1
  obtain ⟨G0, hGe, hB⟩ : ∃ G0, G113 = bxH G0 b g r29.2 ∧ ∀ x', GS [bhA b g x', tabA P_law (("law" ++ ".<locals>." : Str) ++ "<lambda>"), obA C_Origin o27 ns_Origin (fl_Origin C_Ruler l37.2), obA C_Origin o98 ns_Origin (fl_Origin C_Ruler r112.2)] (bxH G0 b g x') := ⟨_, (GS.boxH hS 0 rfl).2⟩
  subst hGe
  refine ⟨_, _, rfl, ?_⟩
  refine wa_nil ?_
  refine ⟨lt_ rfl, ?_⟩
  refine ⟨_, _, rfl, ?_⟩
  refine wa_cons ?_
  refine we_lst ?_
  refine wa_cons ?_
  refine we_tup ?_
  refine wa_cons ?_
  refine we_int ?_
  refine ⟨_, _, rfl, ?_⟩
  refine wa_cons ?_
  refine we_int ?_
  refine ⟨_, _, rfl, ?_⟩
  refine wa_cons ?_
  refine we_bl ?_
  refine ⟨_, _, rfl, ?_⟩
  refine wa_nil ?_
  refine ⟨lt_ rfl, ?_⟩
  refine ⟨_, _, rfl, ?_⟩
  refine wa_cons ?_
  refine we_lst ?_
  refine wa_cons ?_
  refine we_int ?_
  refine ⟨_, _, rfl, ?_⟩
  refine wa_cons ?_
  refine we_int ?_
  refine ⟨_, _, rfl, ?_⟩
  refine wa_cons ?_
  refine we_int ?_
  refine ⟨_, _, rfl, ?_⟩
  refine wa_cons ?_
  refine we_int ?_
  refine ⟨_, _, rfl, ?_⟩
  refine wa_nil ?_
  refine ⟨lt_ rfl, ?_⟩
  refine ⟨_, _, rfl, ?_⟩
  refine wa_cons ?_
  refine we_int ?_
  refine ⟨_, _, rfl, ?_⟩
  refine wa_nil ?_
  refine ⟨lt_ rfl, ?_⟩
  refine ⟨_, _, rfl, ?_⟩
  refine wa_nil ?_
  obtain ⟨g114, h⟩ := Out.gd h
  refine ⟨(fun p : ((Int × Int × Bool)) × (List Int) × Int => D.lst [(eP3 eI eI eB) p.1, (eL eI) p.2.1, eI p.2.2]) (x102, r107, r112.1), congrArg (fun z => [(fun p : ((Int × Int × Bool)) × (List Int) × Int => D.lst [(eP3 eI eI eB) p.1, (eL eI) p.2.1, eI p.2.2]) (x102, r107, r112.1), z]) (congrArg (fun p : ((Int × Int × Bool)) × (List Int) × Int => D.lst [(eP3 eI eI eB) p.1, (eL eI) p.2.1, eI p.2.2]) g114.1).symm, g114.2, ?_⟩
  refine ⟨_, rfl, ?_⟩
  exact h _
theorem all_mk {l : PySem.W.OpenLaw} {w : World} {K : PySem.W.Frag} {h : Heap} {mg : Str → Option Value} {fa : Addr} (X : K.In h) (G : h.Ns mainGlobals mg) (hfa : mg "law" = some (.ref fa))
    {t_MAX_ERROR : Tok} {t_MAX_LENGTH : Tok} {t_MAX_MARKS : Tok} {t_MIN_MARKS : Tok} {t_MISS : Tok} {t_SEE : Tok} {t_MAX_ORIGINS : Tok} {C_Ruler : Addr} {q_Ruler_own_error : Addr} {q_Ruler_own_marks : Addr} {C_Origin : Addr} {Cx_0 : Addr} {Cx_1 : Addr} {Cx_6 : Addr} {Cx_8 : Addr} {Cx_19 : Addr} {fI_InvalidRuler cc_InvalidRuler cda_InvalidRuler : Addr} {woc_InvalidRuler wccl_InvalidRuler wcl_InvalidRuler wdoc_InvalidRuler wpm_InvalidRuler wct_InvalidRuler : Value} {wod_InvalidRuler wcdd_InvalidRuler wcld_InvalidRuler wan_InvalidRuler : Option Addr} {wosl_InvalidRuler wccs_InvalidRuler wcsl_InvalidRuler : Array (Option Value)} {wvs_InvalidRuler : Array Value} {wfile_InvalidRuler : Str} {wtf_InvalidRuler : Tok} {fI_InvalidPiece cc_InvalidPiece cda_InvalidPiece : Addr} {woc_InvalidPiece wccl_InvalidPiece wcl_InvalidPiece wdoc_InvalidPiece wpm_InvalidPiece wct_InvalidPiece : Value} {wod_InvalidPiece wcdd_InvalidPiece wcld_InvalidPiece wan_InvalidPiece : Option Addr} {wosl_InvalidPiece wccs_InvalidPiece wcsl_InvalidPiece : Array (Option Value)} {wvs_InvalidPiece : Array Value} {wfile_InvalidPiece : Str} {wtf_InvalidPiece : Tok} {f_law_alike : Addr} {oc1 kV1 dc1 pm1 cd1 ct1 : Value} {od1 an1 : Option Addr} {sl1 : Array (Option Value)} {f_law_mix : Addr} {oc2 kV2 dc2 pm2 cd2 ct2 : Value} {od2 an2 : Option Addr} {sl2 : Array (Option Value)} {f_law_next : Addr} {oc3 kV3 dc3 pm3 cd3 ct3 : Value} {od3 an3 : Option Addr} {sl3 : Array (Option Value)} {f_mirrored : Addr} {oc4 kV4 dc4 pm4 cd4 ct4 : Value} {od4 an4 : Option Addr} {sl4 : Array (Option Value)} {f_is_number : Addr} {oc5 kV5 dc5 pm5 cd5 ct5 : Value} {od5 an5 : Option Addr} {sl5 : Array (Option Value)} {f_Ruler_init : Addr} {oc6 kV6 dc6 pm6 cd6 ct6 : Value} {od6 an6 : Option Addr} {sl6 : Array (Option Value)} {f_Ruler_turned : Addr} {oc7 kV7 dc7 pm7 cd7 ct7 : Value} {od7 an7 : Option Addr} {sl7 : Array (Option Value)} {f_law_fail : Addr} {oc8 kV8 dc8 pm8 cd8 ct8 : Value} {od8 an8 : Option Addr} {sl8 : Array (Option Value)} {f_Ruler_marks : Addr} {p_Ruler_marks : Addr} {r_Ruler_marks : List Value} {oc9 kV9 dc9 pm9 cd9 ct9 : Value} {od9 an9 : Option Addr} {sl9 : Array (Option Value)} {f_Origin_number_at : Addr} {oc10 kV10 dc10 pm10 cd10 ct10 : Value} {od10 an10 : Option Addr} {sl10 : Array (Option Value)} {f_Origin_validate_index : Addr} {oc11 kV11 dc11 pm11 cd11 ct11 : Value} {od11 an11 : Option Addr} {sl11 : Array (Option Value)} {f_Origin_tell : Addr} {oc12 kV12 dc12 pm12 cd12 ct12 : Value} {od12 an12 : Option Addr} {sl12 : Array (Option Value)} {f_Origin_miss : Addr} {oc13 kV13 dc13 pm13 cd13 ct13 : Value} {od13 an13 : Option Addr} {sl13 : Array (Option Value)} {f_Origin_numbers : Addr} {oc14 kV14 dc14 pm14 cd14 ct14 : Value} {od14 an14 : Option Addr} {sl14 : Array (Option Value)} {f_Origin_see : Addr} {oc15 kV15 dc15 pm15 cd15 ct15 : Value} {od15 an15 : Option Addr} {sl15 : Array (Option Value)} {f_Origin_telling : Addr} {oc16 kV16 dc16 pm16 cd16 ct16 : Value} {od16 an16 : Option Addr} {sl16 : Array (Option Value)} {f_moved : Addr} {oc17 kV17 dc17 pm17 cd17 ct17 : Value} {od17 an17 : Option Addr} {sl17 : Array (Option Value)} {f_Ruler_len : Addr} {oc18 kV18 dc18 pm18 cd18 ct18 : Value} {od18 an18 : Option Addr} {sl18 : Array (Option Value)} {f_spots_on : Addr} {oc19 kV19 dc19 pm19 cd19 ct19 : Value} {od19 an19 : Option Addr} {sl19 : Array (Option Value)} {f_validate_piece : Addr} {oc20 kV20 dc20 pm20 cd20 ct20 : Value} {od20 an20 : Option Addr} {sl20 : Array (Option Value)} {f_spots : Addr} {oc21 kV21 dc21 pm21 cd21 ct21 : Value} {od21 an21 : Option Addr} {sl21 : Array (Option Value)} {f_Origin_init : Addr} {oc22 kV22 dc22 pm22 cd22 ct22 : Value} {od22 an22 : Option Addr} {sl22 : Array (Option Value)} {f_Origin_candidates : Addr} {p_Origin_candidates : Addr} {r_Origin_candidates : List Value} {oc23 kV23 dc23 pm23 cd23 ct23 : Value} {od23 an23 : Option Addr} {sl23 : Array (Option Value)} {f_Origin_seen : Addr} {p_Origin_seen : Addr} {r_Origin_seen : List Value} {oc24 kV24 dc24 pm24 cd24 ct24 : Value} {od24 an24 : Option Addr} {sl24 : Array (Option Value)} {f_law : Addr} {oc25 kV25 dc25 pm25 ct25 : Value} {od25 an25 : Option Addr} {sl25 : Array (Option Value)} {c_law P_law : Addr} {e0 : Value} {d0 : Option Addr} {vs0 : Array Value} {sl0 : Array (Option Value)}
    (z_int : PySem.W.nsIn K mainGlobals "int" = some none)
    (z_len : PySem.W.nsIn K mainGlobals "len" = some none)
    (z_list : PySem.W.nsIn K mainGlobals "list" = some none)
    (z_range : PySem.W.nsIn K mainGlobals "range" = some none)
    (z_sorted : PySem.W.nsIn K mainGlobals "sorted" = some none)
    (z_tuple : PySem.W.nsIn K mainGlobals "tuple" = some none)
    (z_dict : PySem.W.nsIn K mainGlobals "dict" = some none)
    (z_isinstance : PySem.W.nsIn K mainGlobals "isinstance" = some none)
    (z_bool : PySem.W.nsIn K mainGlobals "bool" = some none)
    (z_str : PySem.W.nsIn K mainGlobals "str" = some none)
    (z_enumerate : PySem.W.nsIn K mainGlobals "enumerate" = some none)
    (z_reversed : PySem.W.nsIn K mainGlobals "reversed" = some none)
    (z_abs : PySem.W.nsIn K mainGlobals "abs" = some none)
    (z_min : PySem.W.nsIn K mainGlobals "min" = some none)
    (z_max : PySem.W.nsIn K mainGlobals "max" = some none)
    (z_sum : PySem.W.nsIn K mainGlobals "sum" = some none)
    (z_zip : PySem.W.nsIn K mainGlobals "zip" = some none)
    (z_set : PySem.W.nsIn K mainGlobals "set" = some none)
    (z_all : PySem.W.nsIn K mainGlobals "all" = some none)
    (z_divmod : PySem.W.nsIn K mainGlobals "divmod" = some none)
    (g_MAX_ERROR : PySem.W.nsIn K mainGlobals "MAX_ERROR" = some (some (.int 9 t_MAX_ERROR)))
    (g_MAX_LENGTH : PySem.W.nsIn K mainGlobals "MAX_LENGTH" = some (some (.int 300 t_MAX_LENGTH)))
    (g_MAX_MARKS : PySem.W.nsIn K mainGlobals "MAX_MARKS" = some (some (.int 12 t_MAX_MARKS)))
    (g_MIN_MARKS : PySem.W.nsIn K mainGlobals "MIN_MARKS" = some (some (.int 2 t_MIN_MARKS)))
    (g_MISS : PySem.W.nsIn K mainGlobals "MISS" = some (some (.str "miss" t_MISS)))
    (g_SEE : PySem.W.nsIn K mainGlobals "SEE" = some (some (.str "see" t_SEE)))
    (g_MAX_ORIGINS : PySem.W.nsIn K mainGlobals "MAX_ORIGINS" = some (some (.int 6 t_MAX_ORIGINS)))
    (g_Ruler : PySem.W.nsIn K mainGlobals "Ruler" = some (some (.ref C_Ruler)))
    (pg_Ruler : PySem.W.plainGet K C_Ruler Str.empty = true)
    (ic_Ruler : PySem.W.isClsIn K C_Ruler = true)
    (po_Ruler : PySem.W.plainOver K C_Ruler = true)
    (sa_Ruler : PySem.W.findIn K (.ref C_Ruler) "__setattr__" = some (some (.builtin "object.__setattr__")))
    (ca_Ruler : PySem.W.findIn K (.ref C_Ruler) "__class__" = some (some (.builtin "object.__class__")))
    (cn_Ruler : PySem.W.specialIn K (.builtin "object.__class__") "__get__" = some (some (.builtin "getset_descriptor.__get__")))
    (ct_Ruler : PySem.W.takesIn K (.builtin "object.__class__") = some true)
    (cm_Ruler : PySem.W.mroIn K C_Ruler (.type "object") = some true)
    (sa_Ruler_own_error : PySem.W.findIn K (.ref C_Ruler) "own_error" = some (some (.ref q_Ruler_own_error)))
    (sg_Ruler_own_error : PySem.W.specialIn K (.ref q_Ruler_own_error) "__get__" = some (some (.builtin "member_descriptor.__get__")))
    (sk_Ruler_own_error : PySem.W.takesIn K (.ref q_Ruler_own_error) = some true)
    (sy_Ruler_own_error : PySem.W.typeIn K (.ref q_Ruler_own_error) = some (.type "member_descriptor"))
    (sx_Ruler_own_error : PySem.W.slotIn K q_Ruler_own_error C_Ruler = some 0)
    (sa_Ruler_own_marks : PySem.W.findIn K (.ref C_Ruler) "own_marks" = some (some (.ref q_Ruler_own_marks)))
    (sg_Ruler_own_marks : PySem.W.specialIn K (.ref q_Ruler_own_marks) "__get__" = some (some (.builtin "member_descriptor.__get__")))
    (sk_Ruler_own_marks : PySem.W.takesIn K (.ref q_Ruler_own_marks) = some true)
    (sy_Ruler_own_marks : PySem.W.typeIn K (.ref q_Ruler_own_marks) = some (.type "member_descriptor"))
    (sx_Ruler_own_marks : PySem.W.slotIn K q_Ruler_own_marks C_Ruler = some 1)
    (nf_Ruler : PySem.W.notFirst K C_Ruler (.ref C_Ruler) = true)
    (g_Origin : PySem.W.nsIn K mainGlobals "Origin" = some (some (.ref C_Origin)))
    (pg_Origin : PySem.W.plainGet K C_Origin Str.empty = true)
    (hd_Origin : PySem.W.hasDictIn K C_Origin = true)
    (po_Origin : PySem.W.plainOver K C_Origin = true)
    (sa_Origin : PySem.W.findIn K (.ref C_Origin) "__setattr__" = some (some (.builtin "object.__setattr__")))
    (na_Origin_all_rulers : PySem.W.findIn K (.ref C_Origin) "all_rulers" = some none)
    (na_Origin_size : PySem.W.findIn K (.ref C_Origin) "size" = some none)
    (na_Origin_left : PySem.W.findIn K (.ref C_Origin) "left" = some none)
    (na_Origin_accepted : PySem.W.findIn K (.ref C_Origin) "accepted" = some none)
    (g_RackError : PySem.W.nsIn K mainGlobals "RackError" = some (some (.ref Cx_0)))
    (xt_RackError : PySem.W.typeIn K (.ref Cx_0) = some (.type "type"))
    (xi_RackError : PySem.W.isClsIn K Cx_0 = true)
    (xb_RackError : PySem.W.subIn K (.ref Cx_0) (.type "BaseException") = some true)
    (g_InvalidRuler : PySem.W.nsIn K mainGlobals "InvalidRuler" = some (some (.ref Cx_1)))
    (xt_InvalidRuler : PySem.W.typeIn K (.ref Cx_1) = some (.type "type"))
    (xi_InvalidRuler : PySem.W.isClsIn K Cx_1 = true)
    (xb_InvalidRuler : PySem.W.subIn K (.ref Cx_1) (.type "BaseException") = some true)
    (g_InvalidNumber : PySem.W.nsIn K mainGlobals "InvalidNumber" = some (some (.ref Cx_6)))
    (xt_InvalidNumber : PySem.W.typeIn K (.ref Cx_6) = some (.type "type"))
    (xi_InvalidNumber : PySem.W.isClsIn K Cx_6 = true)
    (xb_InvalidNumber : PySem.W.subIn K (.ref Cx_6) (.type "BaseException") = some true)
    (g_InvalidPiece : PySem.W.nsIn K mainGlobals "InvalidPiece" = some (some (.ref Cx_8)))
    (xt_InvalidPiece : PySem.W.typeIn K (.ref Cx_8) = some (.type "type"))
    (xi_InvalidPiece : PySem.W.isClsIn K Cx_8 = true)
    (xb_InvalidPiece : PySem.W.subIn K (.ref Cx_8) (.type "BaseException") = some true)
    (g_NoPlace : PySem.W.nsIn K mainGlobals "NoPlace" = some (some (.ref Cx_19)))
    (xt_NoPlace : PySem.W.typeIn K (.ref Cx_19) = some (.type "type"))
    (xi_NoPlace : PySem.W.isClsIn K Cx_19 = true)
    (xb_NoPlace : PySem.W.subIn K (.ref Cx_19) (.type "BaseException") = some true)
    (xk_InvalidRuler : PySem.W.keepIn K (.ref Cx_1) = true)
    (wq_InvalidRuler : PySem.W.excInitIn K Cx_1 [.type "ValueError", .type "Exception", .type "BaseException", .type "object"] "ValueError.__new__" = true)
    (ws_InvalidRuler : PySem.W.findIn K (.ref Cx_1) "__setattr__" = some (some (.builtin "object.__setattr__")))
    (nf_InvalidRuler_part : PySem.W.findIn K (.ref Cx_1) "part" = some none)
    (nf_InvalidRuler_index : PySem.W.findIn K (.ref Cx_1) "index" = some none)
    (wi_InvalidRuler : PySem.W.findIn K (.ref Cx_1) "__init__" = some (some (.ref fI_InvalidRuler)))
    (wt_InvalidRuler : PySem.W.typeIn K (.ref fI_InvalidRuler) = some (.type "function"))
    (wu_InvalidRuler : PySem.W.ks_superIn K Cx_1 Cx_1 "__init__" = some (some (.builtin "ValueError.__init__")))
    (wm_InvalidRuler : PySem.W.mroIn K Cx_1 (.ref Cx_1) = some true)
    (w_any : PySem.W.nsIn K cStatics "thirdparty.any" = some none)
    (wl_InvalidRuler : K.lookup fI_InvalidRuler = some ⟨woc_InvalidRuler, wod_InvalidRuler, .func (PySem.W.ksFn "__init__" "InvalidRuler.__init__" (defArgs s_InvalidRuler_init) (defBody s_InvalidRuler_init) (defScope s_InvalidRuler_init) .none .none wdoc_InvalidRuler wpm_InvalidRuler wan_InvalidRuler (.ref cda_InvalidRuler) wct_InvalidRuler cc_InvalidRuler), wosl_InvalidRuler⟩)
    (wc_InvalidRuler : PySem.W.codeIn K (.ref cda_InvalidRuler) "InvalidRuler.__init__" = true)
    (wd_InvalidRuler : K.lookup cda_InvalidRuler = some ⟨wccl_InvalidRuler, wcdd_InvalidRuler, .fields wvs_InvalidRuler, wccs_InvalidRuler⟩)
    (we_InvalidRuler : wvs_InvalidRuler[2]? = some (.str wfile_InvalidRuler wtf_InvalidRuler))
    (wf_InvalidRuler : ((l.prog.main.file : Str) == wfile_InvalidRuler) = true)
    (w_top : (l.prog.main.scope.names.lookup ("super" : Str)).isSome = false)
    (wz_InvalidRuler : K.lookup cc_InvalidRuler = some ⟨wcl_InvalidRuler, wcld_InvalidRuler, .cell (some (.ref Cx_1)), wcsl_InvalidRuler⟩)
    (z_super : PySem.W.nsIn K mainGlobals "super" = some none)
    (xg_InvalidRuler : PySem.W.findIn K (.ref Cx_1) "__getattribute__" = some (some (.builtin "BaseException.__getattribute__")))
    (xa_InvalidRuler : PySem.W.findIn K (.ref Cx_1) "__getattr__" = some none)
    (xd_InvalidRuler : PySem.W.hasDictIn K Cx_1 = true)
    (xl_InvalidRuler : PySem.W.findIn K (.ref Cx_1) "__class__" = some (some (.builtin "object.__class__")))
    (xn_InvalidRuler : PySem.W.specialIn K (.builtin "object.__class__") "__get__" = some (some (.builtin "getset_descriptor.__get__")))
    (xo_InvalidRuler : PySem.W.takesIn K (.builtin "object.__class__") = some true)
    (xr_InvalidRuler : PySem.W.mroIn K Cx_1 (.type "object") = some true)
    (xv_InvalidRuler : PySem.W.subIn K (.ref Cx_1) (.type "ValueError") = some true)
    (xe_InvalidRuler : PySem.W.subIn K (.ref Cx_1) (.ref Cx_0) = some true)
    (xd_RackError : PySem.W.hasDictIn K Cx_0 = true)
    (xk_InvalidNumber : PySem.W.keepIn K (.ref Cx_6) = true)
    (xq_InvalidNumber : PySem.W.excIn K Cx_6 [.type "ValueError", .type "Exception", .type "BaseException", .type "object"] "ValueError.__new__" = true)
    (xg_InvalidNumber : PySem.W.findIn K (.ref Cx_6) "__getattribute__" = some (some (.builtin "BaseException.__getattribute__")))
    (xa_InvalidNumber : PySem.W.findIn K (.ref Cx_6) "__getattr__" = some none)
    (xd_InvalidNumber : PySem.W.hasDictIn K Cx_6 = true)
    (xl_InvalidNumber : PySem.W.findIn K (.ref Cx_6) "__class__" = some (some (.builtin "object.__class__")))
    (xn_InvalidNumber : PySem.W.specialIn K (.builtin "object.__class__") "__get__" = some (some (.builtin "getset_descriptor.__get__")))
    (xo_InvalidNumber : PySem.W.takesIn K (.builtin "object.__class__") = some true)
    (xr_InvalidNumber : PySem.W.mroIn K Cx_6 (.type "object") = some true)
    (xv_InvalidNumber : PySem.W.subIn K (.ref Cx_6) (.type "ValueError") = some true)
    (xe_InvalidNumber : PySem.W.subIn K (.ref Cx_6) (.ref Cx_0) = some true)
    (xk_InvalidPiece : PySem.W.keepIn K (.ref Cx_8) = true)
    (wq_InvalidPiece : PySem.W.excInitIn K Cx_8 [.type "ValueError", .type "Exception", .type "BaseException", .type "object"] "ValueError.__new__" = true)
    (ws_InvalidPiece : PySem.W.findIn K (.ref Cx_8) "__setattr__" = some (some (.builtin "object.__setattr__")))
    (nf_InvalidPiece_index : PySem.W.findIn K (.ref Cx_8) "index" = some none)
    (wi_InvalidPiece : PySem.W.findIn K (.ref Cx_8) "__init__" = some (some (.ref fI_InvalidPiece)))
    (wt_InvalidPiece : PySem.W.typeIn K (.ref fI_InvalidPiece) = some (.type "function"))
    (wu_InvalidPiece : PySem.W.ks_superIn K Cx_8 Cx_8 "__init__" = some (some (.builtin "ValueError.__init__")))
    (wm_InvalidPiece : PySem.W.mroIn K Cx_8 (.ref Cx_8) = some true)
    (wl_InvalidPiece : K.lookup fI_InvalidPiece = some ⟨woc_InvalidPiece, wod_InvalidPiece, .func (PySem.W.ksFn "__init__" "InvalidPiece.__init__" (defArgs s_InvalidPiece_init) (defBody s_InvalidPiece_init) (defScope s_InvalidPiece_init) .none .none wdoc_InvalidPiece wpm_InvalidPiece wan_InvalidPiece (.ref cda_InvalidPiece) wct_InvalidPiece cc_InvalidPiece), wosl_InvalidPiece⟩)
    (wc_InvalidPiece : PySem.W.codeIn K (.ref cda_InvalidPiece) "InvalidPiece.__init__" = true)
    (wd_InvalidPiece : K.lookup cda_InvalidPiece = some ⟨wccl_InvalidPiece, wcdd_InvalidPiece, .fields wvs_InvalidPiece, wccs_InvalidPiece⟩)
    (we_InvalidPiece : wvs_InvalidPiece[2]? = some (.str wfile_InvalidPiece wtf_InvalidPiece))
    (wf_InvalidPiece : ((l.prog.main.file : Str) == wfile_InvalidPiece) = true)
    (wz_InvalidPiece : K.lookup cc_InvalidPiece = some ⟨wcl_InvalidPiece, wcld_InvalidPiece, .cell (some (.ref Cx_8)), wcsl_InvalidPiece⟩)
    (xg_InvalidPiece : PySem.W.findIn K (.ref Cx_8) "__getattribute__" = some (some (.builtin "BaseException.__getattribute__")))
    (xa_InvalidPiece : PySem.W.findIn K (.ref Cx_8) "__getattr__" = some none)
    (xd_InvalidPiece : PySem.W.hasDictIn K Cx_8 = true)
    (xl_InvalidPiece : PySem.W.findIn K (.ref Cx_8) "__class__" = some (some (.builtin "object.__class__")))
    (xn_InvalidPiece : PySem.W.specialIn K (.builtin "object.__class__") "__get__" = some (some (.builtin "getset_descriptor.__get__")))
    (xo_InvalidPiece : PySem.W.takesIn K (.builtin "object.__class__") = some true)
    (xr_InvalidPiece : PySem.W.mroIn K Cx_8 (.type "object") = some true)
    (xv_InvalidPiece : PySem.W.subIn K (.ref Cx_8) (.type "ValueError") = some true)
    (xe_InvalidPiece : PySem.W.subIn K (.ref Cx_8) (.ref Cx_0) = some true)
    (xk_NoPlace : PySem.W.keepIn K (.ref Cx_19) = true)
    (xq_NoPlace : PySem.W.excIn K Cx_19 [.type "ValueError", .type "Exception", .type "BaseException", .type "object"] "ValueError.__new__" = true)
    (xg_NoPlace : PySem.W.findIn K (.ref Cx_19) "__getattribute__" = some (some (.builtin "BaseException.__getattribute__")))
    (xa_NoPlace : PySem.W.findIn K (.ref Cx_19) "__getattr__" = some none)
    (xd_NoPlace : PySem.W.hasDictIn K Cx_19 = true)
    (xl_NoPlace : PySem.W.findIn K (.ref Cx_19) "__class__" = some (some (.builtin "object.__class__")))
    (xn_NoPlace : PySem.W.specialIn K (.builtin "object.__class__") "__get__" = some (some (.builtin "getset_descriptor.__get__")))
    (xo_NoPlace : PySem.W.takesIn K (.builtin "object.__class__") = some true)
    (xr_NoPlace : PySem.W.mroIn K Cx_19 (.type "object") = some true)
    (xv_NoPlace : PySem.W.subIn K (.ref Cx_19) (.type "ValueError") = some true)
    (xe_NoPlace : PySem.W.subIn K (.ref Cx_19) (.ref Cx_0) = some true)
    (ne_6_8 : ((Value.ref Cx_6) == (.ref Cx_8)) = false)
    (sb_6_8 : PySem.W.subIn K (.ref Cx_6) (.ref Cx_8) = some false)
    (ne_6_19 : ((Value.ref Cx_6) == (.ref Cx_19)) = false)
    (sb_6_19 : PySem.W.subIn K (.ref Cx_6) (.ref Cx_19) = some false)
    (ne_8_6 : ((Value.ref Cx_8) == (.ref Cx_6)) = false)
    (sb_8_6 : PySem.W.subIn K (.ref Cx_8) (.ref Cx_6) = some false)
    (ne_8_19 : ((Value.ref Cx_8) == (.ref Cx_19)) = false)
    (sb_8_19 : PySem.W.subIn K (.ref Cx_8) (.ref Cx_19) = some false)
    (ne_1_6 : ((Value.ref Cx_1) == (.ref Cx_6)) = false)
    (sb_1_6 : PySem.W.subIn K (.ref Cx_1) (.ref Cx_6) = some false)
    (ne_1_8 : ((Value.ref Cx_1) == (.ref Cx_8)) = false)
    (sb_1_8 : PySem.W.subIn K (.ref Cx_1) (.ref Cx_8) = some false)
    (ne_1_19 : ((Value.ref Cx_1) == (.ref Cx_19)) = false)
    (sb_1_19 : PySem.W.subIn K (.ref Cx_1) (.ref Cx_19) = some false)
    (ne_19_6 : ((Value.ref Cx_19) == (.ref Cx_6)) = false)
    (sb_19_6 : PySem.W.subIn K (.ref Cx_19) (.ref Cx_6) = some false)
    (ne_19_8 : ((Value.ref Cx_19) == (.ref Cx_8)) = false)
    (sb_19_8 : PySem.W.subIn K (.ref Cx_19) (.ref Cx_8) = some false)
    (zv_VE : PySem.W.nsIn K mainGlobals "ValueError" = some none)
    (a_law_alike : PySem.W.nsIn K mainGlobals "_law_alike" = some (some (.ref f_law_alike)))
    (l_law_alike : K.lookup f_law_alike = some ⟨oc1, od1, .func (PySem.W.fnOf "_law_alike" "_law_alike" (defArgs s_law_alike) (defBody s_law_alike) (defScope s_law_alike) .none kV1 dc1 pm1 an1 cd1 ct1), sl1⟩)
    (c_law_alike : PySem.W.codeIn K cd1 "_law_alike" = true)
    (kp_law_alike : PySem.W.keepIn K (.ref f_law_alike) = true)
    (a_law_mix : PySem.W.nsIn K mainGlobals "_law_mix" = some (some (.ref f_law_mix)))
    (l_law_mix : K.lookup f_law_mix = some ⟨oc2, od2, .func (PySem.W.fnOf "_law_mix" "_law_mix" (defArgs s_law_mix) (defBody s_law_mix) (defScope s_law_mix) .none kV2 dc2 pm2 an2 cd2 ct2), sl2⟩)
    (c_law_mix : PySem.W.codeIn K cd2 "_law_mix" = true)
    (kp_law_mix : PySem.W.keepIn K (.ref f_law_mix) = true)
    (a_law_next : PySem.W.nsIn K mainGlobals "_law_next" = some (some (.ref f_law_next)))
    (l_law_next : K.lookup f_law_next = some ⟨oc3, od3, .func (PySem.W.fnOf "_law_next" "_law_next" (defArgs s_law_next) (defBody s_law_next) (defScope s_law_next) .none kV3 dc3 pm3 an3 cd3 ct3), sl3⟩)
    (c_law_next : PySem.W.codeIn K cd3 "_law_next" = true)
    (kp_law_next : PySem.W.keepIn K (.ref f_law_next) = true)
    (a_mirrored : PySem.W.nsIn K mainGlobals "mirrored" = some (some (.ref f_mirrored)))
    (l_mirrored : K.lookup f_mirrored = some ⟨oc4, od4, .func (PySem.W.fnOf "mirrored" "mirrored" (defArgs s_mirrored) (defBody s_mirrored) (defScope s_mirrored) .none kV4 dc4 pm4 an4 cd4 ct4), sl4⟩)
    (c_mirrored : PySem.W.codeIn K cd4 "mirrored" = true)
    (kp_mirrored : PySem.W.keepIn K (.ref f_mirrored) = true)
    (a_is_number : PySem.W.nsIn K mainGlobals "is_number" = some (some (.ref f_is_number)))
    (l_is_number : K.lookup f_is_number = some ⟨oc5, od5, .func (PySem.W.fnOf "is_number" "is_number" (defArgs s_is_number) (defBody s_is_number) (defScope s_is_number) .none kV5 dc5 pm5 an5 cd5 ct5), sl5⟩)
    (c_is_number : PySem.W.codeIn K cd5 "is_number" = true)
    (kp_is_number : PySem.W.keepIn K (.ref f_is_number) = true)
    (at_Ruler_init : PySem.W.findIn K (.ref C_Ruler) "__init__" = some (some (.ref f_Ruler_init)))
    (fn_Ruler_init : PySem.W.isFn K (.ref f_Ruler_init) = true)
    (l_Ruler_init : K.lookup f_Ruler_init = some ⟨oc6, od6, .func (PySem.W.fnOf "__init__" "Ruler.__init__" (defArgs s_Ruler_init) (defBody s_Ruler_init) (defScope s_Ruler_init) .none kV6 dc6 pm6 an6 cd6 ct6), sl6⟩)
    (c_Ruler_init : PySem.W.codeIn K cd6 "Ruler.__init__" = true)
    (kp_Ruler_init : PySem.W.keepIn K (.ref f_Ruler_init) = true)
    (mki_Ruler : PySem.W.makesIn K C_Ruler = true)
    (kc_Ruler : PySem.W.keepIn K (.ref C_Ruler) = true)
    (at_Ruler_turned : PySem.W.findIn K (.ref C_Ruler) "turned" = some (some (.ref f_Ruler_turned)))
    (fn_Ruler_turned : PySem.W.isFn K (.ref f_Ruler_turned) = true)
    (l_Ruler_turned : K.lookup f_Ruler_turned = some ⟨oc7, od7, .func (PySem.W.fnOf "turned" "Ruler.turned" (defArgs s_Ruler_turned) (defBody s_Ruler_turned) (defScope s_Ruler_turned) .none kV7 dc7 pm7 an7 cd7 ct7), sl7⟩)
    (c_Ruler_turned : PySem.W.codeIn K cd7 "Ruler.turned" = true)
    (kp_Ruler_turned : PySem.W.keepIn K (.ref f_Ruler_turned) = true)
    (a_law_fail : PySem.W.nsIn K mainGlobals "_law_fail" = some (some (.ref f_law_fail)))
    (l_law_fail : K.lookup f_law_fail = some ⟨oc8, od8, .func (PySem.W.fnOf "_law_fail" "_law_fail" (defArgs s_law_fail) (defBody s_law_fail) (defScope s_law_fail) .none kV8 dc8 pm8 an8 cd8 ct8), sl8⟩)
    (c_law_fail : PySem.W.codeIn K cd8 "_law_fail" = true)
    (kp_law_fail : PySem.W.keepIn K (.ref f_law_fail) = true)
    (at_Ruler_marks : PySem.W.findIn K (.ref C_Ruler) "marks" = some (some (.ref p_Ruler_marks)))
    (sp_Ruler_marks : PySem.W.specialIn K (.ref p_Ruler_marks) "__get__" = some (some (.builtin "property.__get__")))
    (tk_Ruler_marks : PySem.W.takesIn K (.ref p_Ruler_marks) = some true)
    (rc_Ruler_marks : PySem.W.recIn K p_Ruler_marks "property" = some (.ref f_Ruler_marks :: r_Ruler_marks))
    (l_Ruler_marks : K.lookup f_Ruler_marks = some ⟨oc9, od9, .func (PySem.W.fnOf "marks" "Ruler.marks" (defArgs s_Ruler_marks) (defBody s_Ruler_marks) (defScope s_Ruler_marks) .none kV9 dc9 pm9 an9 cd9 ct9), sl9⟩)
    (c_Ruler_marks : PySem.W.codeIn K cd9 "Ruler.marks" = true)
    (kp_Ruler_marks : PySem.W.keepIn K (.ref f_Ruler_marks) = true)
    (at_Origin_number_at : PySem.W.findIn K (.ref C_Origin) "number_at" = some (some (.ref f_Origin_number_at)))
    (fn_Origin_number_at : PySem.W.isFn K (.ref f_Origin_number_at) = true)
    (l_Origin_number_at : K.lookup f_Origin_number_at = some ⟨oc10, od10, .func (PySem.W.fnOf "number_at" "Origin.number_at" (defArgs s_Origin_number_at) (defBody s_Origin_number_at) (defScope s_Origin_number_at) .none kV10 dc10 pm10 an10 cd10 ct10), sl10⟩)
    (c_Origin_number_at : PySem.W.codeIn K cd10 "Origin.number_at" = true)
    (kp_Origin_number_at : PySem.W.keepIn K (.ref f_Origin_number_at) = true)
    (at_Origin_validate_index : PySem.W.findIn K (.ref C_Origin) "validate_index" = some (some (.ref f_Origin_validate_index)))
    (fn_Origin_validate_index : PySem.W.isFn K (.ref f_Origin_validate_index) = true)
    (l_Origin_validate_index : K.lookup f_Origin_validate_index = some ⟨oc11, od11, .func (PySem.W.fnOf "validate_index" "Origin.validate_index" (defArgs s_Origin_validate_index) (defBody s_Origin_validate_index) (defScope s_Origin_validate_index) .none kV11 dc11 pm11 an11 cd11 ct11), sl11⟩)
    (c_Origin_validate_index : PySem.W.codeIn K cd11 "Origin.validate_index" = true)
    (kp_Origin_validate_index : PySem.W.keepIn K (.ref f_Origin_validate_index) = true)
    (at_Origin_tell : PySem.W.findIn K (.ref C_Origin) "tell" = some (some (.ref f_Origin_tell)))
    (fn_Origin_tell : PySem.W.isFn K (.ref f_Origin_tell) = true)
    (l_Origin_tell : K.lookup f_Origin_tell = some ⟨oc12, od12, .func (PySem.W.fnOf "tell" "Origin.tell" (defArgs s_Origin_tell) (defBody s_Origin_tell) (defScope s_Origin_tell) .none kV12 dc12 pm12 an12 cd12 ct12), sl12⟩)
    (c_Origin_tell : PySem.W.codeIn K cd12 "Origin.tell" = true)
    (kp_Origin_tell : PySem.W.keepIn K (.ref f_Origin_tell) = true)
    (at_Origin_miss : PySem.W.findIn K (.ref C_Origin) "miss" = some (some (.ref f_Origin_miss)))
    (fn_Origin_miss : PySem.W.isFn K (.ref f_Origin_miss) = true)
    (l_Origin_miss : K.lookup f_Origin_miss = some ⟨oc13, od13, .func (PySem.W.fnOf "miss" "Origin.miss" (defArgs s_Origin_miss) (defBody s_Origin_miss) (defScope s_Origin_miss) .none kV13 dc13 pm13 an13 cd13 ct13), sl13⟩)
    (c_Origin_miss : PySem.W.codeIn K cd13 "Origin.miss" = true)
    (kp_Origin_miss : PySem.W.keepIn K (.ref f_Origin_miss) = true)
    (at_Origin_numbers : PySem.W.findIn K (.ref C_Origin) "numbers" = some (some (.ref f_Origin_numbers)))
    (fn_Origin_numbers : PySem.W.isFn K (.ref f_Origin_numbers) = true)
    (l_Origin_numbers : K.lookup f_Origin_numbers = some ⟨oc14, od14, .func (PySem.W.fnOf "numbers" "Origin.numbers" (defArgs s_Origin_numbers) (defBody s_Origin_numbers) (defScope s_Origin_numbers) .none kV14 dc14 pm14 an14 cd14 ct14), sl14⟩)
    (c_Origin_numbers : PySem.W.codeIn K cd14 "Origin.numbers" = true)
    (kp_Origin_numbers : PySem.W.keepIn K (.ref f_Origin_numbers) = true)
    (at_Origin_see : PySem.W.findIn K (.ref C_Origin) "see" = some (some (.ref f_Origin_see)))
    (fn_Origin_see : PySem.W.isFn K (.ref f_Origin_see) = true)
    (l_Origin_see : K.lookup f_Origin_see = some ⟨oc15, od15, .func (PySem.W.fnOf "see" "Origin.see" (defArgs s_Origin_see) (defBody s_Origin_see) (defScope s_Origin_see) .none kV15 dc15 pm15 an15 cd15 ct15), sl15⟩)
    (c_Origin_see : PySem.W.codeIn K cd15 "Origin.see" = true)
    (kp_Origin_see : PySem.W.keepIn K (.ref f_Origin_see) = true)
    (at_Origin_telling : PySem.W.findIn K (.ref C_Origin) "telling" = some (some (.ref f_Origin_telling)))
    (fn_Origin_telling : PySem.W.isFn K (.ref f_Origin_telling) = true)
    (l_Origin_telling : K.lookup f_Origin_telling = some ⟨oc16, od16, .func (PySem.W.fnOf "telling" "Origin.telling" (defArgs s_Origin_telling) (defBody s_Origin_telling) (defScope s_Origin_telling) .none kV16 dc16 pm16 an16 cd16 ct16), sl16⟩)
    (c_Origin_telling : PySem.W.codeIn K cd16 "Origin.telling" = true)
    (kp_Origin_telling : PySem.W.keepIn K (.ref f_Origin_telling) = true)
    (a_moved : PySem.W.nsIn K mainGlobals "moved" = some (some (.ref f_moved)))
    (l_moved : K.lookup f_moved = some ⟨oc17, od17, .func (PySem.W.fnOf "moved" "moved" (defArgs s_moved) (defBody s_moved) (defScope s_moved) .none kV17 dc17 pm17 an17 cd17 ct17), sl17⟩)
    (c_moved : PySem.W.codeIn K cd17 "moved" = true)
    (kp_moved : PySem.W.keepIn K (.ref f_moved) = true)
    (at_Ruler_len : PySem.W.findIn K (.ref C_Ruler) "__len__" = some (some (.ref f_Ruler_len)))
    (fn_Ruler_len : PySem.W.isFn K (.ref f_Ruler_len) = true)
    (l_Ruler_len : K.lookup f_Ruler_len = some ⟨oc18, od18, .func (PySem.W.fnOf "__len__" "Ruler.__len__" (defArgs s_Ruler_len) (defBody s_Ruler_len) (defScope s_Ruler_len) .none kV18 dc18 pm18 an18 cd18 ct18), sl18⟩)
    (c_Ruler_len : PySem.W.codeIn K cd18 "Ruler.__len__" = true)
    (kp_Ruler_len : PySem.W.keepIn K (.ref f_Ruler_len) = true)
    (a_spots_on : PySem.W.nsIn K mainGlobals "spots_on" = some (some (.ref f_spots_on)))
    (l_spots_on : K.lookup f_spots_on = some ⟨oc19, od19, .func (PySem.W.fnOf "spots_on" "spots_on" (defArgs s_spots_on) (defBody s_spots_on) (defScope s_spots_on) .none kV19 dc19 pm19 an19 cd19 ct19), sl19⟩)
    (c_spots_on : PySem.W.codeIn K cd19 "spots_on" = true)
    (kp_spots_on : PySem.W.keepIn K (.ref f_spots_on) = true)
    (a_validate_piece : PySem.W.nsIn K mainGlobals "validate_piece" = some (some (.ref f_validate_piece)))
    (l_validate_piece : K.lookup f_validate_piece = some ⟨oc20, od20, .func (PySem.W.fnOf "validate_piece" "validate_piece" (defArgs s_validate_piece) (defBody s_validate_piece) (defScope s_validate_piece) .none kV20 dc20 pm20 an20 cd20 ct20), sl20⟩)
    (c_validate_piece : PySem.W.codeIn K cd20 "validate_piece" = true)
    (kp_validate_piece : PySem.W.keepIn K (.ref f_validate_piece) = true)
    (a_spots : PySem.W.nsIn K mainGlobals "spots" = some (some (.ref f_spots)))
    (l_spots : K.lookup f_spots = some ⟨oc21, od21, .func (PySem.W.fnOf "spots" "spots" (defArgs s_spots) (defBody s_spots) (defScope s_spots) .none kV21 dc21 pm21 an21 cd21 ct21), sl21⟩)
    (c_spots : PySem.W.codeIn K cd21 "spots" = true)
    (kp_spots : PySem.W.keepIn K (.ref f_spots) = true)
    (at_Origin_init : PySem.W.findIn K (.ref C_Origin) "__init__" = some (some (.ref f_Origin_init)))
    (fn_Origin_init : PySem.W.isFn K (.ref f_Origin_init) = true)
    (l_Origin_init : K.lookup f_Origin_init = some ⟨oc22, od22, .func (PySem.W.fnOf "__init__" "Origin.__init__" (defArgs s_Origin_init) (defBody s_Origin_init) (defScope s_Origin_init) .none kV22 dc22 pm22 an22 cd22 ct22), sl22⟩)
    (c_Origin_init : PySem.W.codeIn K cd22 "Origin.__init__" = true)
    (kp_Origin_init : PySem.W.keepIn K (.ref f_Origin_init) = true)
    (mki_Origin : PySem.W.makesIn K C_Origin = true)
    (kc_Origin : PySem.W.keepIn K (.ref C_Origin) = true)
    (at_Origin_candidates : PySem.W.findIn K (.ref C_Origin) "candidates" = some (some (.ref p_Origin_candidates)))
    (sp_Origin_candidates : PySem.W.specialIn K (.ref p_Origin_candidates) "__get__" = some (some (.builtin "property.__get__")))
    (tk_Origin_candidates : PySem.W.takesIn K (.ref p_Origin_candidates) = some true)
    (rc_Origin_candidates : PySem.W.recIn K p_Origin_candidates "property" = some (.ref f_Origin_candidates :: r_Origin_candidates))
    (l_Origin_candidates : K.lookup f_Origin_candidates = some ⟨oc23, od23, .func (PySem.W.fnOf "candidates" "Origin.candidates" (defArgs s_Origin_candidates) (defBody s_Origin_candidates) (defScope s_Origin_candidates) .none kV23 dc23 pm23 an23 cd23 ct23), sl23⟩)
    (c_Origin_candidates : PySem.W.codeIn K cd23 "Origin.candidates" = true)
    (kp_Origin_candidates : PySem.W.keepIn K (.ref f_Origin_candidates) = true)
    (at_Origin_seen : PySem.W.findIn K (.ref C_Origin) "seen" = some (some (.ref p_Origin_seen)))
    (sp_Origin_seen : PySem.W.specialIn K (.ref p_Origin_seen) "__get__" = some (some (.builtin "property.__get__")))
    (tk_Origin_seen : PySem.W.takesIn K (.ref p_Origin_seen) = some true)
    (rc_Origin_seen : PySem.W.recIn K p_Origin_seen "property" = some (.ref f_Origin_seen :: r_Origin_seen))
    (l_Origin_seen : K.lookup f_Origin_seen = some ⟨oc24, od24, .func (PySem.W.fnOf "seen" "Origin.seen" (defArgs s_Origin_seen) (defBody s_Origin_seen) (defScope s_Origin_seen) .none kV24 dc24 pm24 an24 cd24 ct24), sl24⟩)
    (c_Origin_seen : PySem.W.codeIn K cd24 "Origin.seen" = true)
    (kp_Origin_seen : PySem.W.keepIn K (.ref f_Origin_seen) = true)
    (a_law : PySem.W.nsIn K mainGlobals "law" = some (some (.ref f_law)))
    (l_law : K.lookup f_law = some ⟨oc25, od25, .func (PySem.W.fnOf "law" "law" (defArgs s_law) (defBody s_law) (defScope s_law) .none kV25 dc25 pm25 an25 (.ref c_law) ct25), sl25⟩)
    (cc_law : PySem.W.codeIn K (.ref c_law) "law" = true)
    (kp_law : PySem.W.keepIn K (.ref f_law) = true)
    (lc_law : K.lookup c_law = some ⟨e0, d0, .fields vs0, sl0⟩)
    (v11_law : vs0[11]? = some (.ref P_law))
    (np_law : K.lookup P_law = none)
    (ch_law : PySem.W.codeHdIn K c_law P_law = true) :
    ∃ (fd : FuncData) (c P : Addr) (e0 : Value) (d0 : Option Addr) (vs0 : Array Value) (sl0 : Array (Option Value)) (o : Obj), K.lookup fa = some o ∧ o.data = .func fd ∧ fd.code = .ref c ∧ K.lookup c = some ⟨e0, d0, .fields vs0, sl0⟩ ∧ vs0[11]? = some (.ref P) ∧ K.lookup P = none ∧ PySem.W.codeHdIn K c P = true ∧
      (∀ (s : Shared) (v : Value), BindsTo s fd ⟨[v], []⟩ [("_law_script", v)]) ∧ ∀ base : Heap, K.In base → base.Ns mainGlobals mg → LamX.TabB base mg c P → FnOk l.prog w K mg base (L2.CX l.prog w) 17 fa fd ["_law_script"] (spD K (FLawT P (("law" ++ ".<locals>." : Str) ++ "<lambda>") m_law)) := by
  have efa := hfa.symm.trans (PySem.W.mg_of X G a_law)
  cases efa
  have mg_MAX_ERROR := PySem.W.mg_of X G g_MAX_ERROR
  have mg_MAX_LENGTH := PySem.W.mg_of X G g_MAX_LENGTH
  have mg_MAX_MARKS := PySem.W.mg_of X G g_MAX_MARKS
  have mg_MIN_MARKS := PySem.W.mg_of X G g_MIN_MARKS
  have mg_MISS := PySem.W.mg_of X G g_MISS
  have mg_SEE := PySem.W.mg_of X G g_SEE
  have mg_MAX_ORIGINS := PySem.W.mg_of X G g_MAX_ORIGINS
  have mg_Ruler := PySem.W.mg_of X G g_Ruler
  have cls_Ruler : SlX.SCls K C_Ruler := ⟨pg_Ruler, ic_Ruler, po_Ruler, sa_Ruler⟩
  have isi_Ruler : SlX.SIsi K C_Ruler := ⟨ca_Ruler, cn_Ruler, ct_Ruler, cm_Ruler⟩
  have slot_Ruler_own_error : SlX.Slot1 K C_Ruler "own_error" q_Ruler_own_error 0 := ⟨sa_Ruler_own_error, sg_Ruler_own_error, sk_Ruler_own_error, sy_Ruler_own_error, sx_Ruler_own_error, by decide⟩
  have slot_Ruler_own_marks : SlX.Slot1 K C_Ruler "own_marks" q_Ruler_own_marks 1 := ⟨sa_Ruler_own_marks, sg_Ruler_own_marks, sk_Ruler_own_marks, sy_Ruler_own_marks, sx_Ruler_own_marks, by decide⟩
  have cl_Ruler : Cl_Ruler K C_Ruler := ⟨cls_Ruler, isi_Ruler, ⟨_, slot_Ruler_own_error⟩, ⟨_, slot_Ruler_own_marks⟩, kit_same (by simp), nf_Ruler⟩
  have mg_Origin := PySem.W.mg_of X G g_Origin
  have cl_Origin : Clo_Origin K C_Origin := ⟨⟨pg_Origin, hd_Origin, po_Origin, sa_Origin⟩, na_Origin_all_rulers, na_Origin_size, na_Origin_left, na_Origin_accepted⟩
  have mg_RackError := PySem.W.mg_of X G g_RackError
  have xm_RackError : mg "RackError" = some (.ref (xcx [Cx_0, Cx_1, 0, 0, 0, 0, Cx_6, 0, Cx_8, 0, 0, 0, 0, 0, 0, 0, 0, 0, 0, Cx_19] 0)) := mg_RackError
  have mg_InvalidRuler := PySem.W.mg_of X G g_InvalidRuler
  have xm_InvalidRuler : mg "InvalidRuler" = some (.ref (xcx [Cx_0, Cx_1, 0, 0, 0, 0, Cx_6, 0, Cx_8, 0, 0, 0, 0, 0, 0, 0, 0, 0, 0, Cx_19] 1)) := mg_InvalidRuler
  have mg_InvalidNumber := PySem.W.mg_of X G g_InvalidNumber
  have xm_InvalidNumber : mg "InvalidNumber" = some (.ref (xcx [Cx_0, Cx_1, 0, 0, 0, 0, Cx_6, 0, Cx_8, 0, 0, 0, 0, 0, 0, 0, 0, 0, 0, Cx_19] 6)) := mg_InvalidNumber
  have mg_InvalidPiece := PySem.W.mg_of X G g_InvalidPiece
  have xm_InvalidPiece : mg "InvalidPiece" = some (.ref (xcx [Cx_0, Cx_1, 0, 0, 0, 0, Cx_6, 0, Cx_8, 0, 0, 0, 0, 0, 0, 0, 0, 0, 0, Cx_19] 8)) := mg_InvalidPiece
  have mg_NoPlace := PySem.W.mg_of X G g_NoPlace
  have xm_NoPlace : mg "NoPlace" = some (.ref (xcx [Cx_0, Cx_1, 0, 0, 0, 0, Cx_6, 0, Cx_8, 0, 0, 0, 0, 0, 0, 0, 0, 0, 0, Cx_19] 19)) := mg_NoPlace
  have xg_super : mg "super" = none := PySem.W.mg_none_of X G z_super
  have ec_InvalidRuler : ExcC K (xcx [Cx_0, Cx_1, 0, 0, 0, 0, Cx_6, 0, Cx_8, 0, 0, 0, 0, 0, 0, 0, 0, 0, 0, Cx_19] 1) := ⟨xg_InvalidRuler, xa_InvalidRuler, xb_InvalidRuler, xd_InvalidRuler, xl_InvalidRuler, xn_InvalidRuler, xo_InvalidRuler, xr_InvalidRuler⟩
  have xf_InvalidRuler : L2.XfC K (xcx [Cx_0, Cx_1, 0, 0, 0, 0, Cx_6, 0, Cx_8, 0, 0, 0, 0, 0, 0, 0, 0, 0, 0, Cx_19] 1) := ⟨xg_InvalidRuler, xa_InvalidRuler, xb_InvalidRuler, xd_InvalidRuler⟩
  have oe_InvalidRuler : L2.OexC K Cx_1 := oexc_mk wq_InvalidRuler xd_InvalidRuler ws_InvalidRuler xb_InvalidRuler xt_InvalidRuler xk_InvalidRuler
  have xw_InvalidRuler : XK2 l.prog K mg "InvalidRuler" "part" "index" (xcx [Cx_0, Cx_1, 0, 0, 0, 0, Cx_6, 0, Cx_8, 0, 0, 0, 0, 0, 0, 0, 0, 0, 0, Cx_19] 1) := xk2_mk xtx_InvalidRuler oe_InvalidRuler mg_InvalidRuler xg_super nf_InvalidRuler_part nf_InvalidRuler_index wi_InvalidRuler wt_InvalidRuler wu_InvalidRuler wm_InvalidRuler xv_InvalidRuler w_any wl_InvalidRuler wc_InvalidRuler wd_InvalidRuler we_InvalidRuler wf_InvalidRuler w_top wz_InvalidRuler
  have kv_InvalidRuler : PySem.W.kitOne K (.ref (xcx [Cx_0, Cx_1, 0, 0, 0, 0, Cx_6, 0, Cx_8, 0, 0, 0, 0, 0, 0, 0, 0, 0, 0, Cx_19] 1)) (.type "ValueError") = some true := kit_typ xv_InvalidRuler
  have em_InvalidRuler : PySem.W.exmOne K (.ref (xcx [Cx_0, Cx_1, 0, 0, 0, 0, Cx_6, 0, Cx_8, 0, 0, 0, 0, 0, 0, 0, 0, 0, 0, Cx_19] 1)) (.ref (xcx [Cx_0, Cx_1, 0, 0, 0, 0, Cx_6, 0, Cx_8, 0, 0, 0, 0, 0, 0, 0, 0, 0, 0, Cx_19] 0)) = some true := PySem.W.exm_ref xb_RackError xd_RackError xt_RackError xe_InvalidRuler
  have xc_InvalidNumber : XC K mg "InvalidNumber" (xcx [Cx_0, Cx_1, 0, 0, 0, 0, Cx_6, 0, Cx_8, 0, 0, 0, 0, 0, 0, 0, 0, 0, 0, Cx_19] 6) := ⟨xq_InvalidNumber, mg_InvalidNumber, xk_InvalidNumber, xb_InvalidNumber, xt_InvalidNumber⟩
  have ec_InvalidNumber : ExcC K (xcx [Cx_0, Cx_1, 0, 0, 0, 0, Cx_6, 0, Cx_8, 0, 0, 0, 0, 0, 0, 0, 0, 0, 0, Cx_19] 6) := ⟨xg_InvalidNumber, xa_InvalidNumber, xb_InvalidNumber, xd_InvalidNumber, xl_InvalidNumber, xn_InvalidNumber, xo_InvalidNumber, xr_InvalidNumber⟩
  have kv_InvalidNumber : PySem.W.kitOne K (.ref (xcx [Cx_0, Cx_1, 0, 0, 0, 0, Cx_6, 0, Cx_8, 0, 0, 0, 0, 0, 0, 0, 0, 0, 0, Cx_19] 6)) (.type "ValueError") = some true := kit_typ xv_InvalidNumber
  have em_InvalidNumber : PySem.W.exmOne K (.ref (xcx [Cx_0, Cx_1, 0, 0, 0, 0, Cx_6, 0, Cx_8, 0, 0, 0, 0, 0, 0, 0, 0, 0, 0, Cx_19] 6)) (.ref (xcx [Cx_0, Cx_1, 0, 0, 0, 0, Cx_6, 0, Cx_8, 0, 0, 0, 0, 0, 0, 0, 0, 0, 0, Cx_19] 0)) = some true := PySem.W.exm_ref xb_RackError xd_RackError xt_RackError xe_InvalidNumber
  have ec_InvalidPiece : ExcC K (xcx [Cx_0, Cx_1, 0, 0, 0, 0, Cx_6, 0, Cx_8, 0, 0, 0, 0, 0, 0, 0, 0, 0, 0, Cx_19] 8) := ⟨xg_InvalidPiece, xa_InvalidPiece, xb_InvalidPiece, xd_InvalidPiece, xl_InvalidPiece, xn_InvalidPiece, xo_InvalidPiece, xr_InvalidPiece⟩
  have xf_InvalidPiece : L2.XfC K (xcx [Cx_0, Cx_1, 0, 0, 0, 0, Cx_6, 0, Cx_8, 0, 0, 0, 0, 0, 0, 0, 0, 0, 0, Cx_19] 8) := ⟨xg_InvalidPiece, xa_InvalidPiece, xb_InvalidPiece, xd_InvalidPiece⟩
  have oe_InvalidPiece : L2.OexC K Cx_8 := oexc_mk wq_InvalidPiece xd_InvalidPiece ws_InvalidPiece xb_InvalidPiece xt_InvalidPiece xk_InvalidPiece
  have xw_InvalidPiece : XK1 l.prog K mg "InvalidPiece" "index" (xcx [Cx_0, Cx_1, 0, 0, 0, 0, Cx_6, 0, Cx_8, 0, 0, 0, 0, 0, 0, 0, 0, 0, 0, Cx_19] 8) := xk1_mk xtx_InvalidPiece oe_InvalidPiece mg_InvalidPiece xg_super nf_InvalidPiece_index wi_InvalidPiece wt_InvalidPiece wu_InvalidPiece wm_InvalidPiece xv_InvalidPiece w_any wl_InvalidPiece wc_InvalidPiece wd_InvalidPiece we_InvalidPiece wf_InvalidPiece w_top wz_InvalidPiece
  have kv_InvalidPiece : PySem.W.kitOne K (.ref (xcx [Cx_0, Cx_1, 0, 0, 0, 0, Cx_6, 0, Cx_8, 0, 0, 0, 0, 0, 0, 0, 0, 0, 0, Cx_19] 8)) (.type "ValueError") = some true := kit_typ xv_InvalidPiece
  have em_InvalidPiece : PySem.W.exmOne K (.ref (xcx [Cx_0, Cx_1, 0, 0, 0, 0, Cx_6, 0, Cx_8, 0, 0, 0, 0, 0, 0, 0, 0, 0, 0, Cx_19] 8)) (.ref (xcx [Cx_0, Cx_1, 0, 0, 0, 0, Cx_6, 0, Cx_8, 0, 0, 0, 0, 0, 0, 0, 0, 0, 0, Cx_19] 0)) = some true := PySem.W.exm_ref xb_RackError xd_RackError xt_RackError xe_InvalidPiece
  have xc_NoPlace : XC K mg "NoPlace" (xcx [Cx_0, Cx_1, 0, 0, 0, 0, Cx_6, 0, Cx_8, 0, 0, 0, 0, 0, 0, 0, 0, 0, 0, Cx_19] 19) := ⟨xq_NoPlace, mg_NoPlace, xk_NoPlace, xb_NoPlace, xt_NoPlace⟩
  have ec_NoPlace : ExcC K (xcx [Cx_0, Cx_1, 0, 0, 0, 0, Cx_6, 0, Cx_8, 0, 0, 0, 0, 0, 0, 0, 0, 0, 0, Cx_19] 19) := ⟨xg_NoPlace, xa_NoPlace, xb_NoPlace, xd_NoPlace, xl_NoPlace, xn_NoPlace, xo_NoPlace, xr_NoPlace⟩
  have kv_NoPlace : PySem.W.kitOne K (.ref (xcx [Cx_0, Cx_1, 0, 0, 0, 0, Cx_6, 0, Cx_8, 0, 0, 0, 0, 0, 0, 0, 0, 0, 0, Cx_19] 19)) (.type "ValueError") = some true := kit_typ xv_NoPlace
  have em_NoPlace : PySem.W.exmOne K (.ref (xcx [Cx_0, Cx_1, 0, 0, 0, 0, Cx_6, 0, Cx_8, 0, 0, 0, 0, 0, 0, 0, 0, 0, 0, Cx_19] 19)) (.ref (xcx [Cx_0, Cx_1, 0, 0, 0, 0, Cx_6, 0, Cx_8, 0, 0, 0, 0, 0, 0, 0, 0, 0, 0, Cx_19] 0)) = some true := PySem.W.exm_ref xb_RackError xd_RackError xt_RackError xe_NoPlace
  have kk_InvalidNumber_InvalidNumber : PySem.W.kitOne K (.ref (xcx [Cx_0, Cx_1, 0, 0, 0, 0, Cx_6, 0, Cx_8, 0, 0, 0, 0, 0, 0, 0, 0, 0, 0, Cx_19] 6)) (.ref (xcx [Cx_0, Cx_1, 0, 0, 0, 0, Cx_6, 0, Cx_8, 0, 0, 0, 0, 0, 0, 0, 0, 0, 0, Cx_19] 6)) = some true := kit_same (by simp)
  have kk_InvalidNumber_InvalidPiece : PySem.W.kitOne K (.ref (xcx [Cx_0, Cx_1, 0, 0, 0, 0, Cx_6, 0, Cx_8, 0, 0, 0, 0, 0, 0, 0, 0, 0, 0, Cx_19] 6)) (.ref (xcx [Cx_0, Cx_1, 0, 0, 0, 0, Cx_6, 0, Cx_8, 0, 0, 0, 0, 0, 0, 0, 0, 0, 0, Cx_19] 8)) = some false := kit_ref ne_6_8 xi_InvalidPiece xt_InvalidPiece sb_6_8
  have kk_InvalidNumber_NoPlace : PySem.W.kitOne K (.ref (xcx [Cx_0, Cx_1, 0, 0, 0, 0, Cx_6, 0, Cx_8, 0, 0, 0, 0, 0, 0, 0, 0, 0, 0, Cx_19] 6)) (.ref (xcx [Cx_0, Cx_1, 0, 0, 0, 0, Cx_6, 0, Cx_8, 0, 0, 0, 0, 0, 0, 0, 0, 0, 0, Cx_19] 19)) = some false := kit_ref ne_6_19 xi_NoPlace xt_NoPlace sb_6_19
  have kk_InvalidPiece_InvalidNumber : PySem.W.kitOne K (.ref (xcx [Cx_0, Cx_1, 0, 0, 0, 0, Cx_6, 0, Cx_8, 0, 0, 0, 0, 0, 0, 0, 0, 0, 0, Cx_19] 8)) (.ref (xcx [Cx_0, Cx_1, 0, 0, 0, 0, Cx_6, 0, Cx_8, 0, 0, 0, 0, 0, 0, 0, 0, 0, 0, Cx_19] 6)) = some false := kit_ref ne_8_6 xi_InvalidNumber xt_InvalidNumber sb_8_6
  have kk_InvalidPiece_InvalidPiece : PySem.W.kitOne K (.ref (xcx [Cx_0, Cx_1, 0, 0, 0, 0, Cx_6, 0, Cx_8, 0, 0, 0, 0, 0, 0, 0, 0, 0, 0, Cx_19] 8)) (.ref (xcx [Cx_0, Cx_1, 0, 0, 0, 0, Cx_6, 0, Cx_8, 0, 0, 0, 0, 0, 0, 0, 0, 0, 0, Cx_19] 8)) = some true := kit_same (by simp)
  have kk_InvalidPiece_NoPlace : PySem.W.kitOne K (.ref (xcx [Cx_0, Cx_1, 0, 0, 0, 0, Cx_6, 0, Cx_8, 0, 0, 0, 0, 0, 0, 0, 0, 0, 0, Cx_19] 8)) (.ref (xcx [Cx_0, Cx_1, 0, 0, 0, 0, Cx_6, 0, Cx_8, 0, 0, 0, 0, 0, 0, 0, 0, 0, 0, Cx_19] 19)) = some false := kit_ref ne_8_19 xi_NoPlace xt_NoPlace sb_8_19
  have kk_InvalidRuler_InvalidNumber : PySem.W.kitOne K (.ref (xcx [Cx_0, Cx_1, 0, 0, 0, 0, Cx_6, 0, Cx_8, 0, 0, 0, 0, 0, 0, 0, 0, 0, 0, Cx_19] 1)) (.ref (xcx [Cx_0, Cx_1, 0, 0, 0, 0, Cx_6, 0, Cx_8, 0, 0, 0, 0, 0, 0, 0, 0, 0, 0, Cx_19] 6)) = some false := kit_ref ne_1_6 xi_InvalidNumber xt_InvalidNumber sb_1_6
  have kk_InvalidRuler_InvalidPiece : PySem.W.kitOne K (.ref (xcx [Cx_0, Cx_1, 0, 0, 0, 0, Cx_6, 0, Cx_8, 0, 0, 0, 0, 0, 0, 0, 0, 0, 0, Cx_19] 1)) (.ref (xcx [Cx_0, Cx_1, 0, 0, 0, 0, Cx_6, 0, Cx_8, 0, 0, 0, 0, 0, 0, 0, 0, 0, 0, Cx_19] 8)) = some false := kit_ref ne_1_8 xi_InvalidPiece xt_InvalidPiece sb_1_8
  have kk_InvalidRuler_NoPlace : PySem.W.kitOne K (.ref (xcx [Cx_0, Cx_1, 0, 0, 0, 0, Cx_6, 0, Cx_8, 0, 0, 0, 0, 0, 0, 0, 0, 0, 0, Cx_19] 1)) (.ref (xcx [Cx_0, Cx_1, 0, 0, 0, 0, Cx_6, 0, Cx_8, 0, 0, 0, 0, 0, 0, 0, 0, 0, 0, Cx_19] 19)) = some false := kit_ref ne_1_19 xi_NoPlace xt_NoPlace sb_1_19
  have kk_NoPlace_InvalidNumber : PySem.W.kitOne K (.ref (xcx [Cx_0, Cx_1, 0, 0, 0, 0, Cx_6, 0, Cx_8, 0, 0, 0, 0, 0, 0, 0, 0, 0, 0, Cx_19] 19)) (.ref (xcx [Cx_0, Cx_1, 0, 0, 0, 0, Cx_6, 0, Cx_8, 0, 0, 0, 0, 0, 0, 0, 0, 0, 0, Cx_19] 6)) = some false := kit_ref ne_19_6 xi_InvalidNumber xt_InvalidNumber sb_19_6
  have kk_NoPlace_InvalidPiece : PySem.W.kitOne K (.ref (xcx [Cx_0, Cx_1, 0, 0, 0, 0, Cx_6, 0, Cx_8, 0, 0, 0, 0, 0, 0, 0, 0, 0, 0, Cx_19] 19)) (.ref (xcx [Cx_0, Cx_1, 0, 0, 0, 0, Cx_6, 0, Cx_8, 0, 0, 0, 0, 0, 0, 0, 0, 0, 0, Cx_19] 8)) = some false := kit_ref ne_19_8 xi_InvalidPiece xt_InvalidPiece sb_19_8
  have kk_NoPlace_NoPlace : PySem.W.kitOne K (.ref (xcx [Cx_0, Cx_1, 0, 0, 0, 0, Cx_6, 0, Cx_8, 0, 0, 0, 0, 0, 0, 0, 0, 0, 0, Cx_19] 19)) (.ref (xcx [Cx_0, Cx_1, 0, 0, 0, 0, Cx_6, 0, Cx_8, 0, 0, 0, 0, 0, 0, 0, 0, 0, 0, Cx_19] 19)) = some true := kit_same (by simp)
  have xg_ValueError : mg "ValueError" = none := PySem.W.mg_none_of X G zv_VE
  have B : Bn mg := ⟨PySem.W.mg_none_of X G z_int, PySem.W.mg_none_of X G z_len, PySem.W.mg_none_of X G z_list, PySem.W.mg_none_of X G z_range, PySem.W.mg_none_of X G z_sorted, PySem.W.mg_none_of X G z_tuple, PySem.W.mg_none_of X G z_dict, PySem.W.mg_none_of X G z_isinstance, PySem.W.mg_none_of X G z_bool, PySem.W.mg_none_of X G z_str, PySem.W.mg_none_of X G z_enumerate, PySem.W.mg_none_of X G z_reversed, PySem.W.mg_none_of X G z_abs, PySem.W.mg_none_of X G z_min, PySem.W.mg_none_of X G z_max, PySem.W.mg_none_of X G z_sum, PySem.W.mg_none_of X G z_zip, PySem.W.mg_none_of X G z_set, PySem.W.mg_none_of X G z_all, PySem.W.mg_none_of X G z_divmod⟩
  have F_law_alike := fun_mk (st := s_law_alike) l_law_alike c_law_alike kp_law_alike
  have b_law_alike := F_law_alike.binds (ps := ["_law_found", "_law_due"]) fun _ _ _ _ _ _ us hl => match us, hl with | [_, _], _ => rfl
  have mg_law_alike := PySem.W.mg_of X G a_law_alike
  have F_law_mix := fun_mk (st := s_law_mix) l_law_mix c_law_mix kp_law_mix
  have b_law_mix := F_law_mix.binds (ps := ["_law_script", "_law_seed"]) fun _ _ _ _ _ _ us hl => match us, hl with | [_, _], _ => rfl
  have mg_law_mix := PySem.W.mg_of X G a_law_mix
  have F_law_next := fun_mk (st := s_law_next) l_law_next c_law_next kp_law_next
  have b_law_next := F_law_next.binds (ps := ["_law_h", "_law_limit"]) fun _ _ _ _ _ _ us hl => match us, hl with | [_, _], _ => rfl
  have mg_law_next := PySem.W.mg_of X G a_law_next
  have F_mirrored := fun_mk (st := s_mirrored) l_mirrored c_mirrored kp_mirrored
  have b_mirrored := F_mirrored.binds (ps := ["marks"]) fun _ _ _ _ _ _ us hl => match us, hl with | [_], _ => rfl
  have mg_mirrored := PySem.W.mg_of X G a_mirrored
  have F_is_number := fun_mk (st := s_is_number) l_is_number c_is_number kp_is_number
  have b_is_number := F_is_number.binds (ps := ["value", "lowest", "highest"]) fun _ _ _ _ _ _ us hl => match us, hl with | [_, _, _], _ => rfl
  have mg_is_number := PySem.W.mg_of X G a_is_number
  have F_Ruler_init := fun_mk (st := s_Ruler_init) l_Ruler_init c_Ruler_init kp_Ruler_init
  have b_Ruler_init := F_Ruler_init.binds (ps := ["self", "marks", "error"]) fun _ _ _ _ _ _ us hl => match us, hl with | [_, _, _], _ => rfl
  have F_Ruler_turned := fun_mk (st := s_Ruler_turned) l_Ruler_turned c_Ruler_turned kp_Ruler_turned
  have b_Ruler_turned := F_Ruler_turned.binds (ps := ["self"]) fun _ _ _ _ _ _ us hl => match us, hl with | [_], _ => rfl
  have F_law_fail := fun_mk (st := s_law_fail) l_law_fail c_law_fail kp_law_fail
  have b_law_fail := F_law_fail.binds (ps := ["_law_work"]) fun _ _ _ _ _ _ us hl => match us, hl with | [_], _ => rfl
  have mg_law_fail := PySem.W.mg_of X G a_law_fail
  have F_Ruler_marks := fun_mk (st := s_Ruler_marks) l_Ruler_marks c_Ruler_marks kp_Ruler_marks
  have b_Ruler_marks := F_Ruler_marks.binds (ps := ["self"]) fun _ _ _ _ _ _ us hl => match us, hl with | [_], _ => rfl
  have F_Origin_number_at := fun_mk (st := s_Origin_number_at) l_Origin_number_at c_Origin_number_at kp_Origin_number_at
  have b_Origin_number_at := F_Origin_number_at.binds (ps := ["self", "place", "index"]) fun _ _ _ _ _ _ us hl => match us, hl with | [_, _, _], _ => rfl
  have F_Origin_validate_index := fun_mk (st := s_Origin_validate_index) l_Origin_validate_index c_Origin_validate_index kp_Origin_validate_index
  have b_Origin_validate_index := F_Origin_validate_index.binds (ps := ["self", "index"]) fun _ _ _ _ _ _ us hl => match us, hl with | [_, _], _ => rfl
  have F_Origin_tell := fun_mk (st := s_Origin_tell) l_Origin_tell c_Origin_tell kp_Origin_tell
  have b_Origin_tell := F_Origin_tell.binds (ps := ["self", "word", "index", "number"]) fun _ _ _ _ _ _ us hl => match us, hl with | [_, _, _, _], _ => rfl
  have F_Origin_miss := fun_mk (st := s_Origin_miss) l_Origin_miss c_Origin_miss kp_Origin_miss
  have b_Origin_miss := F_Origin_miss.binds (ps := ["self", "index", "number"]) fun _ _ _ _ _ _ us hl => match us, hl with | [_, _, _], _ => rfl
  have F_Origin_numbers := fun_mk (st := s_Origin_numbers) l_Origin_numbers c_Origin_numbers kp_Origin_numbers
  have b_Origin_numbers := F_Origin_numbers.binds (ps := ["self", "index"]) fun _ _ _ _ _ _ us hl => match us, hl with | [_, _], _ => rfl
  have F_Origin_see := fun_mk (st := s_Origin_see) l_Origin_see c_Origin_see kp_Origin_see
  have b_Origin_see := F_Origin_see.binds (ps := ["self", "index", "number"]) fun _ _ _ _ _ _ us hl => match us, hl with | [_, _, _], _ => rfl
  have F_Origin_telling := fun_mk (st := s_Origin_telling) l_Origin_telling c_Origin_telling kp_Origin_telling
  have b_Origin_telling := F_Origin_telling.binds (ps := ["self"]) fun _ _ _ _ _ _ us hl => match us, hl with | [_], _ => rfl
  have F_moved := fun_mk (st := s_moved) l_moved c_moved kp_moved
  have b_moved := F_moved.binds (ps := ["marks"]) fun _ _ _ _ _ _ us hl => match us, hl with | [_], _ => rfl
  have mg_moved := PySem.W.mg_of X G a_moved
  have F_Ruler_len := fun_mk (st := s_Ruler_len) l_Ruler_len c_Ruler_len kp_Ruler_len
  have b_Ruler_len := F_Ruler_len.binds (ps := ["self"]) fun _ _ _ _ _ _ us hl => match us, hl with | [_], _ => rfl
  have F_spots_on := fun_mk (st := s_spots_on) l_spots_on c_spots_on kp_spots_on
  have b_spots_on := F_spots_on.binds (ps := ["ruler", "piece"]) fun _ _ _ _ _ _ us hl => match us, hl with | [_, _], _ => rfl
  have mg_spots_on := PySem.W.mg_of X G a_spots_on
  have F_validate_piece := fun_mk (st := s_validate_piece) l_validate_piece c_validate_piece kp_validate_piece
  have b_validate_piece := F_validate_piece.binds (ps := ["piece", "index"]) fun _ _ _ _ _ _ us hl => match us, hl with | [_, _], _ => rfl
  have mg_validate_piece := PySem.W.mg_of X G a_validate_piece
  have F_spots := fun_mk (st := s_spots) l_spots c_spots kp_spots
  have b_spots := F_spots.binds (ps := ["ruler", "piece"]) fun _ _ _ _ _ _ us hl => match us, hl with | [_, _], _ => rfl
  have mg_spots := PySem.W.mg_of X G a_spots
  have F_Origin_init := fun_mk (st := s_Origin_init) l_Origin_init c_Origin_init kp_Origin_init
  have b_Origin_init := F_Origin_init.binds (ps := ["self", "rulers", "piece"]) fun _ _ _ _ _ _ us hl => match us, hl with | [_, _, _], _ => rfl
  have F_Origin_candidates := fun_mk (st := s_Origin_candidates) l_Origin_candidates c_Origin_candidates kp_Origin_candidates
  have b_Origin_candidates := F_Origin_candidates.binds (ps := ["self"]) fun _ _ _ _ _ _ us hl => match us, hl with | [_], _ => rfl
  have F_Origin_seen := fun_mk (st := s_Origin_seen) l_Origin_seen c_Origin_seen kp_Origin_seen
  have b_Origin_seen := F_Origin_seen.binds (ps := ["self"]) fun _ _ _ _ _ _ us hl => match us, hl with | [_], _ => rfl
  have F_law := fun_mk (st := s_law) l_law cc_law kp_law
  refine ⟨PySem.W.fnOf "law" "law" (defArgs s_law) (defBody s_law) (defScope s_law) .none kV25 dc25 pm25 an25 (.ref c_law) ct25, c_law, P_law, e0, d0, vs0, sl0, _, l_law, rfl, rfl, lc_law, v11_law, np_law, ch_law, fun s v => .of_eq rfl, fun base _ _ tb => ?_⟩
  have c_law_alike_0 : Cal l.prog w K mg base "_law_alike" 3 ["_law_found", "_law_due"] (alikeF 0) := ⟨f_law_alike, _, ok_law_alike (n := 0) (k := 2) F_law_alike B (fun h => absurd h (by decide)), mg_law_alike, kp_law_alike, b_law_alike⟩
  have c_law_alike_1 : Cal l.prog w K mg base "_law_alike" 4 ["_law_found", "_law_due"] (alikeF 1) := ⟨f_law_alike, _, ok_law_alike (n := 1) (k := 3) F_law_alike B (fun _ => c_law_alike_0), mg_law_alike, kp_law_alike, b_law_alike⟩
  have c_law_alike_2 : Cal l.prog w K mg base "_law_alike" 5 ["_law_found", "_law_due"] (alikeF 2) := ⟨f_law_alike, _, ok_law_alike (n := 2) (k := 4) F_law_alike B (fun _ => c_law_alike_1), mg_law_alike, kp_law_alike, b_law_alike⟩
  have c_law_alike_3 : Cal l.prog w K mg base "_law_alike" 6 ["_law_found", "_law_due"] (alikeF 3) := ⟨f_law_alike, _, ok_law_alike (n := 3) (k := 5) F_law_alike B (fun _ => c_law_alike_2), mg_law_alike, kp_law_alike, b_law_alike⟩
  have c_law_mix : Cal l.prog w K mg base "_law_mix" 3 ["_law_script", "_law_seed"] (FMix m_law_mix) := ⟨f_law_mix, _, ok_law_mix F_law_mix B, mg_law_mix, kp_law_mix, b_law_mix⟩
  have c_law_next : Cal l.prog w K mg base "_law_next" 3 ["_law_h", "_law_limit"] (FBh (A := Int) (R := Int) (fun a => [eI a]) (fun v => .sh (eI v)) (fun a => m_law_next a)) := ⟨f_law_next, _, ok_law_next F_law_next B, mg_law_next, kp_law_next, b_law_next⟩
  have c_mirrored : Cal l.prog w K mg base "mirrored" 3 ["marks"] (FM (xcx [Cx_0, Cx_1, 0, 0, 0, 0, Cx_6, 0, Cx_8, 0, 0, 0, 0, 0, 0, 0, 0, 0, 0, Cx_19]) (A := List Int) (R := List Int) (fun a => [(eT eI) a]) (fun v => .sh ((eT eI) v)) (fun a => m_mirrored a)) := ⟨f_mirrored, _, ok_mirrored F_mirrored B, mg_mirrored, kp_mirrored, b_mirrored⟩
  have c_is_number : Cal l.prog w K mg base "is_number" 3 ["value", "lowest", "highest"] (FM (xcx [Cx_0, Cx_1, 0, 0, 0, 0, Cx_6, 0, Cx_8, 0, 0, 0, 0, 0, 0, 0, 0, 0, 0, Cx_19]) (A := Int × Int × Int) (R := Bool) (fun a => [eI a.1, eI a.2.1, eI a.2.2]) (fun v => .sh (eB v)) (fun a => .ok (m_is_number a.1 a.2.1 a.2.2))) := ⟨f_is_number, _, ok_is_number F_is_number B, mg_is_number, kp_is_number, b_is_number⟩
  have k_Ruler : MakeD l.prog w K mg base "Ruler" C_Ruler 5 ["self", "marks", "error"] (FMI (xcx [Cx_0, Cx_1, 0, 0, 0, 0, Cx_6, 0, Cx_8, 0, 0, 0, 0, 0, 0, 0, 0, 0, 0, Cx_19]) (A := (List Int) × Int) (R := Rul) (fun a => [(eT eI) a.1, eI a.2]) (fun r => [.int r.error, .tup (r.marks.map D.int)]) (fun a => mk_Ruler a.1 a.2)) := ⟨f_Ruler_init, _, ⟨mki_Ruler, at_Ruler_init, fn_Ruler_init, kc_Ruler⟩, mg_Ruler, ok_Ruler_init F_Ruler_init B c_is_number cl_Ruler mg_MAX_ERROR mg_MAX_LENGTH mg_MAX_MARKS mg_MIN_MARKS xw_InvalidRuler, b_Ruler_init⟩
  have d_Ruler_turned : MethD l.prog w K mg base C_Ruler "turned" 8 ["self"] (FM (xcx [Cx_0, Cx_1, 0, 0, 0, 0, Cx_6, 0, Cx_8, 0, 0, 0, 0, 0, 0, 0, 0, 0, 0, Cx_19]) (A := Rul) (R := Rul) (fun a => [(eRul C_Ruler) a]) (fun v => .sh ((eRul C_Ruler) v)) (fun a => m_Ruler_turned a)) := ⟨f_Ruler_turned, _, ⟨at_Ruler_turned, fn_Ruler_turned, kp_Ruler_turned⟩, ok_Ruler_turned F_Ruler_turned B c_mirrored cl_Ruler k_Ruler, b_Ruler_turned⟩
  have l_law_fail : LErr l.prog w K mg base "_law_fail" none (hdOf (xcx [Cx_0, Cx_1, 0, 0, 0, 0, Cx_6, 0, Cx_8, 0, 0, 0, 0, 0, 0, 0, 0, 0, 0, Cx_19]) eAt hd_law_fail) := ok_law_fail F_law_fail B mg_law_fail b_law_fail ec_InvalidNumber ec_InvalidPiece ec_InvalidRuler ec_NoPlace em_InvalidNumber em_InvalidPiece em_InvalidRuler em_NoPlace kk_InvalidNumber_InvalidNumber kk_InvalidNumber_InvalidPiece kk_InvalidNumber_NoPlace kk_InvalidPiece_InvalidNumber kk_InvalidPiece_InvalidPiece kk_InvalidPiece_NoPlace kk_InvalidRuler_InvalidNumber kk_InvalidRuler_InvalidPiece kk_InvalidRuler_NoPlace kk_NoPlace_InvalidNumber kk_NoPlace_InvalidPiece kk_NoPlace_NoPlace xm_InvalidNumber xm_InvalidPiece xm_NoPlace xm_RackError xg_ValueError
  have p_Ruler_marks : PropD l.prog w K mg base C_Ruler "marks" 3 (FM (xcx [Cx_0, Cx_1, 0, 0, 0, 0, Cx_6, 0, Cx_8, 0, 0, 0, 0, 0, 0, 0, 0, 0, 0, Cx_19]) (A := Rul) (R := List Int) (fun a => [(eRul C_Ruler) a]) (fun v => .sh ((eT eI) v)) (fun a => .ok (m_Ruler_marks a))) := ⟨p_Ruler_marks, f_Ruler_marks, _, at_Ruler_marks, sp_Ruler_marks, tk_Ruler_marks, ⟨_, rc_Ruler_marks⟩, ok_Ruler_marks F_Ruler_marks B cl_Ruler, b_Ruler_marks⟩
  have d_Origin_number_at : MethD l.prog w K mg base C_Origin "number_at" 6 ["self", "place", "index"] (FCO (xcx [Cx_0, Cx_1, 0, 0, 0, 0, Cx_6, 0, Cx_8, 0, 0, 0, 0, 0, 0, 0, 0, 0, 0, Cx_19]) C_Origin ns_Origin (σT := S_Origin) (A := ((Int × Int × Bool)) × Int) (R := Int) (fl_Origin C_Ruler) (fun a => [(eP3 eI eI eB) a.1, eI a.2]) (fun v => .sh (eI v)) (fun s a => m_Origin_number_at s a.1 a.2)) := ⟨f_Origin_number_at, _, ⟨at_Origin_number_at, fn_Origin_number_at, kp_Origin_number_at⟩, ok_Origin_number_at F_Origin_number_at B cl_Ruler cl_Origin p_Ruler_marks, b_Origin_number_at⟩
  have c_is_number_n : Cal l.prog w K mg base "is_number" 3 ["value", "lowest", "highest"] (FM (xcx [Cx_0, Cx_1, 0, 0, 0, 0, Cx_6, 0, Cx_8, 0, 0, 0, 0, 0, 0, 0, 0, 0, 0, Cx_19]) (A := IB × Int × Int) (R := Bool) (fun a => [eIB a.1, eI a.2.1, eI a.2.2]) (fun v => .sh (eB v)) (fun a => .ok (m_is_number_n a.1 a.2.1 a.2.2))) := ⟨f_is_number, _, ok_is_number_n F_is_number B, mg_is_number, kp_is_number, b_is_number⟩
  have d_Origin_validate_index : MethD l.prog w K mg base C_Origin "validate_index" 5 ["self", "index"] (FCO (xcx [Cx_0, Cx_1, 0, 0, 0, 0, Cx_6, 0, Cx_8, 0, 0, 0, 0, 0, 0, 0, 0, 0, 0, Cx_19]) C_Origin ns_Origin (σT := S_Origin) (A := IB) (R := Unit) (fl_Origin C_Ruler) (fun a => [eIB a]) (fun v => .sh (eU v)) (fun s a => m_Origin_validate_index s a)) := ⟨f_Origin_validate_index, _, ⟨at_Origin_validate_index, fn_Origin_validate_index, kp_Origin_validate_index⟩, ok_Origin_validate_index F_Origin_validate_index B c_is_number_n cl_Origin xc_InvalidNumber, b_Origin_validate_index⟩
  have d_Origin_tell : MethD l.prog w K mg base C_Origin "tell" 8 ["self", "word", "index", "number"] (FMO (xcx [Cx_0, Cx_1, 0, 0, 0, 0, Cx_6, 0, Cx_8, 0, 0, 0, 0, 0, 0, 0, 0, 0, 0, Cx_19]) C_Origin ns_Origin (σT := S_Origin) (A := S × IB × Int) (R := Int) (fl_Origin C_Ruler) (fun a => [eZ a.1, eIB a.2.1, eI a.2.2]) (fun v => .sh (eI v)) (fun s a => m_Origin_tell s a.1 a.2.1 a.2.2)) := ⟨f_Origin_tell, _, ⟨at_Origin_tell, fn_Origin_tell, kp_Origin_tell⟩, ok_Origin_tell F_Origin_tell B mg_SEE cl_Origin d_Origin_number_at d_Origin_validate_index xc_NoPlace, b_Origin_tell⟩
  have d_Origin_miss : MethD l.prog w K mg base C_Origin "miss" 10 ["self", "index", "number"] (FMO (xcx [Cx_0, Cx_1, 0, 0, 0, 0, Cx_6, 0, Cx_8, 0, 0, 0, 0, 0, 0, 0, 0, 0, 0, Cx_19]) C_Origin ns_Origin (σT := S_Origin) (A := IB × Int) (R := Int) (fl_Origin C_Ruler) (fun a => [eIB a.1, eI a.2]) (fun v => .sh (eI v)) (fun s a => m_Origin_miss s a.1 a.2)) := ⟨f_Origin_miss, _, ⟨at_Origin_miss, fn_Origin_miss, kp_Origin_miss⟩, ok_Origin_miss F_Origin_miss B mg_MISS cl_Origin d_Origin_tell, b_Origin_miss⟩
  have d_Origin_numbers : MethD l.prog w K mg base C_Origin "numbers" 8 ["self", "index"] (FCO (xcx [Cx_0, Cx_1, 0, 0, 0, 0, Cx_6, 0, Cx_8, 0, 0, 0, 0, 0, 0, 0, 0, 0, 0, Cx_19]) C_Origin ns_Origin (σT := S_Origin) (A := IB) (R := List Int) (fl_Origin C_Ruler) (fun a => [eIB a]) (fun v => .fr ((eL eI) v)) (fun s a => m_Origin_numbers s a)) := ⟨f_Origin_numbers, _, ⟨at_Origin_numbers, fn_Origin_numbers, kp_Origin_numbers⟩, ok_Origin_numbers F_Origin_numbers B cl_Origin d_Origin_number_at d_Origin_validate_index, b_Origin_numbers⟩
  have d_Origin_see : MethD l.prog w K mg base C_Origin "see" 10 ["self", "index", "number"] (FMO (xcx [Cx_0, Cx_1, 0, 0, 0, 0, Cx_6, 0, Cx_8, 0, 0, 0, 0, 0, 0, 0, 0, 0, 0, Cx_19]) C_Origin ns_Origin (σT := S_Origin) (A := IB × Int) (R := Int) (fl_Origin C_Ruler) (fun a => [eIB a.1, eI a.2]) (fun v => .sh (eI v)) (fun s a => m_Origin_see s a.1 a.2)) := ⟨f_Origin_see, _, ⟨at_Origin_see, fn_Origin_see, kp_Origin_see⟩, ok_Origin_see F_Origin_see B mg_SEE cl_Origin d_Origin_tell, b_Origin_see⟩
  have d_Origin_telling : MethD l.prog w K mg base C_Origin "telling" 8 ["self"] (FCO (xcx [Cx_0, Cx_1, 0, 0, 0, 0, Cx_6, 0, Cx_8, 0, 0, 0, 0, 0, 0, 0, 0, 0, 0, Cx_19]) C_Origin ns_Origin (σT := S_Origin) (A := Unit) (R := Int) (fl_Origin C_Ruler) (fun _ => []) (fun v => .sh (eI v)) (fun s _ => m_Origin_telling s)) := ⟨f_Origin_telling, _, ⟨at_Origin_telling, fn_Origin_telling, kp_Origin_telling⟩, ok_Origin_telling F_Origin_telling B cl_Origin d_Origin_number_at, b_Origin_telling⟩
  have c_moved : Cal l.prog w K mg base "moved" 3 ["marks"] (FM (xcx [Cx_0, Cx_1, 0, 0, 0, 0, Cx_6, 0, Cx_8, 0, 0, 0, 0, 0, 0, 0, 0, 0, 0, Cx_19]) (A := List Int) (R := List Int) (fun a => [(eT eI) a]) (fun v => .sh ((eT eI) v)) (fun a => m_moved a)) := ⟨f_moved, _, ok_moved F_moved B, mg_moved, kp_moved, b_moved⟩
  have x_Ruler_len : SpecD l.prog w K mg base C_Ruler "__len__" 3 ["self"] (FM (xcx [Cx_0, Cx_1, 0, 0, 0, 0, Cx_6, 0, Cx_8, 0, 0, 0, 0, 0, 0, 0, 0, 0, 0, Cx_19]) (A := Rul) (R := Int) (fun a => [(eRul C_Ruler) a]) (fun v => .sh (eI v)) (fun a => .ok (m_Ruler___len a))) := ⟨f_Ruler_len, _, at_Ruler_len, fn_Ruler_len, ok_Ruler_len F_Ruler_len B cl_Ruler, b_Ruler_len⟩
  have c_spots_on : Cal l.prog w K mg base "spots_on" 6 ["ruler", "piece"] (FM (xcx [Cx_0, Cx_1, 0, 0, 0, 0, Cx_6, 0, Cx_8, 0, 0, 0, 0, 0, 0, 0, 0, 0, 0, Cx_19]) (A := Rul × (List Int)) (R := List ((Int × Bool))) (fun a => [(eRul C_Ruler) a.1, (eT eI) a.2]) (fun v => .fr ((eL (eP eI eB)) v)) (fun a => m_spots_on a.1 a.2)) := ⟨f_spots_on, _, ok_spots_on F_spots_on B c_mirrored c_moved cl_Ruler p_Ruler_marks x_Ruler_len, mg_spots_on, kp_spots_on, b_spots_on⟩
  have c_validate_piece : Cal l.prog w K mg base "validate_piece" 5 ["piece", "index"] (FM (xcx [Cx_0, Cx_1, 0, 0, 0, 0, Cx_6, 0, Cx_8, 0, 0, 0, 0, 0, 0, 0, 0, 0, 0, Cx_19]) (A := (List IB) × Int) (R := Unit) (fun a => [(eT eIB) a.1, eI a.2]) (fun v => .sh (eU v)) (fun a => m_validate_piece a.1 a.2)) := ⟨f_validate_piece, _, ok_validate_piece F_validate_piece B c_is_number_n mg_MAX_LENGTH mg_MAX_MARKS xw_InvalidPiece, mg_validate_piece, kp_validate_piece, b_validate_piece⟩
  have c_spots : Cal l.prog w K mg base "spots" 8 ["ruler", "piece"] (FM (xcx [Cx_0, Cx_1, 0, 0, 0, 0, Cx_6, 0, Cx_8, 0, 0, 0, 0, 0, 0, 0, 0, 0, 0, Cx_19]) (A := Rul × (List IB)) (R := List ((Int × Bool))) (fun a => [(eRul C_Ruler) a.1, (eT eIB) a.2]) (fun v => .fr ((eL (eP eI eB)) v)) (fun a => m_spots a.1 a.2)) := ⟨f_spots, _, ok_spots F_spots B c_spots_on c_validate_piece, mg_spots, kp_spots, b_spots⟩
  have k_Origin : MakeO l.prog w K mg base "Origin" C_Origin 10 ["self", "rulers", "piece"] (FIO (xcx [Cx_0, Cx_1, 0, 0, 0, 0, Cx_6, 0, Cx_8, 0, 0, 0, 0, 0, 0, 0, 0, 0, 0, Cx_19]) C_Origin ns_Origin (σT := S_Origin) (A := (List Rul) × (List IB)) (fl_Origin C_Ruler) (fun a => [(eT (eRul C_Ruler)) a.1, (eT eIB) a.2]) (fun a => mk_Origin a.1 a.2)) := ⟨f_Origin_init, _, ⟨mki_Origin, at_Origin_init, fn_Origin_init, kc_Origin⟩, mg_Origin, ok_Origin_init F_Origin_init B c_spots mg_MAX_ORIGINS cl_Origin xc_InvalidNumber xc_NoPlace, b_Origin_init⟩
  have p_Origin_candidates : PropD l.prog w K mg base C_Origin "candidates" 3 (FCO (xcx [Cx_0, Cx_1, 0, 0, 0, 0, Cx_6, 0, Cx_8, 0, 0, 0, 0, 0, 0, 0, 0, 0, 0, Cx_19]) C_Origin ns_Origin (σT := S_Origin) (A := Unit) (R := List ((Int × Int × Bool))) (fl_Origin C_Ruler) (fun _ => []) (fun v => .sh ((eT (eP3 eI eI eB)) v)) (fun s _ => .ok (m_Origin_candidates s))) := ⟨p_Origin_candidates, f_Origin_candidates, _, at_Origin_candidates, sp_Origin_candidates, tk_Origin_candidates, ⟨_, rc_Origin_candidates⟩, ok_Origin_candidates F_Origin_candidates B cl_Origin, b_Origin_candidates⟩
  have p_Origin_seen : PropD l.prog w K mg base C_Origin "seen" 3 (FCO (xcx [Cx_0, Cx_1, 0, 0, 0, 0, Cx_6, 0, Cx_8, 0, 0, 0, 0, 0, 0, 0, 0, 0, 0, Cx_19]) C_Origin ns_Origin (σT := S_Origin) (A := Unit) (R := List ((S × Int × Int))) (fl_Origin C_Ruler) (fun _ => []) (fun v => .fr ((eL (eP3 eZ eI eI)) v)) (fun s _ => .ok (m_Origin_seen s))) := ⟨p_Origin_seen, f_Origin_seen, _, at_Origin_seen, sp_Origin_seen, tk_Origin_seen, ⟨_, rc_Origin_seen⟩, ok_Origin_seen F_Origin_seen B cl_Origin, b_Origin_seen⟩
  exact ok_law (cx := xcx [Cx_0, Cx_1, 0, 0, 0, 0, Cx_6, 0, Cx_8, 0, 0, 0, 0, 0, 0, 0, 0, 0, 0, Cx_19]) F_law B c_law_alike_1 c_law_alike_2 c_law_alike_3 c_law_mix c_law_next d_Ruler_turned cl_Ruler k_Ruler l_law_fail    cl_Origin d_Origin_miss d_Origin_numbers d_Origin_see d_Origin_telling k_Origin p_Origin_candidates p_Origin_seen rfl tb
end
end RB
open PySem PySem.W PyProof.Rows
set_option maxRecDepth 100000 in
set_option maxHeartbeats 0 in
theorem PySem.Challenge.cw_rulerbits_k43_origins_refused_holds : PySem.Challenge.rw_rulerbits_k43_origins_refused.Holds := by
  w_on; o_law; k_head; (case hw => w_witness2)
  k_fill
  refine RB.walkT (l := PySem.Challenge.rw_rulerbits_k43_origins_refused) (m := RB.m_law) (k := 17) (qn := ("law" ++ ".<locals>." : Str) ++ "<lambda>") rfl rfl ⟨rfl, by decide, by decide⟩ (by first | rfl | decide) (fun w h Y => PySem.W.km_in_of Y) (fun ns hl => RB.law_true ns hl) ?F
  case F =>
    intro w mg fa h KX G hmg
    refine' RB.all_mk KX G hmg ?z_int ?z_len ?z_list ?z_range ?z_sorted ?z_tuple ?z_dict ?z_isinstance ?z_bool ?z_str ?z_enumerate ?z_reversed ?z_abs ?z_min ?z_max ?z_sum ?z_zip ?z_set ?z_all ?z_divmod ?g_MAX_ERROR ?g_MAX_LENGTH ?g_MAX_MARKS ?g_MIN_MARKS ?g_MISS ?g_SEE ?g_MAX_ORIGINS ?g_Ruler ?pg_Ruler ?ic_Ruler ?po_Ruler ?sa_Ruler ?ca_Ruler ?cn_Ruler ?ct_Ruler ?cm_Ruler ?sa_Ruler_own_error ?sg_Ruler_own_error ?sk_Ruler_own_error ?sy_Ruler_own_error ?sx_Ruler_own_error ?sa_Ruler_own_marks ?sg_Ruler_own_marks ?sk_Ruler_own_marks ?sy_Ruler_own_marks ?sx_Ruler_own_marks ?nf_Ruler ?g_Origin ?pg_Origin ?hd_Origin ?po_Origin ?sa_Origin ?na_Origin_all_rulers ?na_Origin_size ?na_Origin_left ?na_Origin_accepted ?g_RackError ?xt_RackError ?xi_RackError ?xb_RackError ?g_InvalidRuler ?xt_InvalidRuler ?xi_InvalidRuler ?xb_InvalidRuler ?g_InvalidNumber ?xt_InvalidNumber ?xi_InvalidNumber ?xb_InvalidNumber ?g_InvalidPiece ?xt_InvalidPiece ?xi_InvalidPiece ?xb_InvalidPiece ?g_NoPlace ?xt_NoPlace ?xi_NoPlace ?xb_NoPlace ?xk_InvalidRuler ?wq_InvalidRuler ?ws_InvalidRuler ?nf_InvalidRuler_part ?nf_InvalidRuler_index ?wi_InvalidRuler ?wt_InvalidRuler ?wu_InvalidRuler ?wm_InvalidRuler ?w_any ?wl_InvalidRuler ?wc_InvalidRuler ?wd_InvalidRuler ?we_InvalidRuler ?wf_InvalidRuler ?w_top ?wz_InvalidRuler ?z_super ?xg_InvalidRuler ?xa_InvalidRuler ?xd_InvalidRuler ?xl_InvalidRuler ?xn_InvalidRuler ?xo_InvalidRuler ?xr_InvalidRuler ?xv_InvalidRuler ?xe_InvalidRuler ?xd_RackError ?xk_InvalidNumber ?xq_InvalidNumber ?xg_InvalidNumber ?xa_InvalidNumber ?xd_InvalidNumber ?xl_InvalidNumber ?xn_InvalidNumber ?xo_InvalidNumber ?xr_InvalidNumber ?xv_InvalidNumber ?xe_InvalidNumber ?xk_InvalidPiece ?wq_InvalidPiece ?ws_InvalidPiece ?nf_InvalidPiece_index ?wi_InvalidPiece ?wt_InvalidPiece ?wu_InvalidPiece ?wm_InvalidPiece ?wl_InvalidPiece ?wc_InvalidPiece ?wd_InvalidPiece ?we_InvalidPiece ?wf_InvalidPiece ?wz_InvalidPiece ?xg_InvalidPiece ?xa_InvalidPiece ?xd_InvalidPiece ?xl_InvalidPiece ?xn_InvalidPiece ?xo_InvalidPiece ?xr_InvalidPiece ?xv_InvalidPiece ?xe_InvalidPiece ?xk_NoPlace ?xq_NoPlace ?xg_NoPlace ?xa_NoPlace ?xd_NoPlace ?xl_NoPlace ?xn_NoPlace ?xo_NoPlace ?xr_NoPlace ?xv_NoPlace ?xe_NoPlace ?ne_6_8 ?sb_6_8 ?ne_6_19 ?sb_6_19 ?ne_8_6 ?sb_8_6 ?ne_8_19 ?sb_8_19 ?ne_1_6 ?sb_1_6 ?ne_1_8 ?sb_1_8 ?ne_1_19 ?sb_1_19 ?ne_19_6 ?sb_19_6 ?ne_19_8 ?sb_19_8 ?zv_VE ?a_law_alike ?l_law_alike ?c_law_alike ?kp_law_alike ?a_law_mix ?l_law_mix ?c_law_mix ?kp_law_mix ?a_law_next ?l_law_next ?c_law_next ?kp_law_next ?a_mirrored ?l_mirrored ?c_mirrored ?kp_mirrored ?a_is_number ?l_is_number ?c_is_number ?kp_is_number ?at_Ruler_init ?fn_Ruler_init ?l_Ruler_init ?c_Ruler_init ?kp_Ruler_init ?mki_Ruler ?kc_Ruler ?at_Ruler_turned ?fn_Ruler_turned ?l_Ruler_turned ?c_Ruler_turned ?kp_Ruler_turned ?a_law_fail ?l_law_fail ?c_law_fail ?kp_law_fail ?at_Ruler_marks ?sp_Ruler_marks ?tk_Ruler_marks ?rc_Ruler_marks ?l_Ruler_marks ?c_Ruler_marks ?kp_Ruler_marks ?at_Origin_number_at ?fn_Origin_number_at ?l_Origin_number_at ?c_Origin_number_at ?kp_Origin_number_at ?at_Origin_validate_index ?fn_Origin_validate_index ?l_Origin_validate_index ?c_Origin_validate_index ?kp_Origin_validate_index ?at_Origin_tell ?fn_Origin_tell ?l_Origin_tell ?c_Origin_tell ?kp_Origin_tell ?at_Origin_miss ?fn_Origin_miss ?l_Origin_miss ?c_Origin_miss ?kp_Origin_miss ?at_Origin_numbers ?fn_Origin_numbers ?l_Origin_numbers ?c_Origin_numbers ?kp_Origin_numbers ?at_Origin_see ?fn_Origin_see ?l_Origin_see ?c_Origin_see ?kp_Origin_see ?at_Origin_telling ?fn_Origin_telling ?l_Origin_telling ?c_Origin_telling ?kp_Origin_telling ?a_moved ?l_moved ?c_moved ?kp_moved ?at_Ruler_len ?fn_Ruler_len ?l_Ruler_len ?c_Ruler_len ?kp_Ruler_len ?a_spots_on ?l_spots_on ?c_spots_on ?kp_spots_on ?a_validate_piece ?l_validate_piece ?c_validate_piece ?kp_validate_piece ?a_spots ?l_spots ?c_spots ?kp_spots ?at_Origin_init ?fn_Origin_init ?l_Origin_init ?c_Origin_init ?kp_Origin_init ?mki_Origin ?kc_Origin ?at_Origin_candidates ?sp_Origin_candidates ?tk_Origin_candidates ?rc_Origin_candidates ?l_Origin_candidates ?c_Origin_candidates ?kp_Origin_candidates ?at_Origin_seen ?sp_Origin_seen ?tk_Origin_seen ?rc_Origin_seen ?l_Origin_seen ?c_Origin_seen ?kp_Origin_seen ?a_law ?l_law ?cc_law ?kp_law ?lc_law ?v11_law ?np_law ?ch_law
    (case z_int => k_is)
    (case z_len => k_is)
    (case z_list => k_is)
    (case z_range => k_is)
    (case z_sorted => k_is)
    (case z_tuple => k_is)
    (case z_dict => k_is)
    (case z_isinstance => k_is)
    (case z_bool => k_is)
    (case z_str => k_is)
    (case z_enumerate => k_is)
    (case z_reversed => k_is)
    (case z_abs => k_is)
    (case z_min => k_is)
    (case z_max => k_is)
    (case z_sum => k_is)
    (case z_zip => k_is)
    (case z_set => k_is)
    (case z_all => k_is)
    (case z_divmod => k_is)
    (case g_MAX_ERROR => k_is)
    (case g_MAX_LENGTH => k_is)
    (case g_MAX_MARKS => k_is)
    (case g_MIN_MARKS => k_is)
    (case g_MISS => k_is)
    (case g_SEE => k_is)
    (case g_MAX_ORIGINS => k_is)
    (case g_Ruler => k_is)
    (case pg_Ruler => k_is)
    (case ic_Ruler => k_is)
    (case po_Ruler => k_is)
    (case sa_Ruler => k_is)
    (case ca_Ruler => k_is)
    (case cn_Ruler => k_is)
    (case ct_Ruler => k_is)
    (case cm_Ruler => k_is)
    (case sa_Ruler_own_error => k_is)
    (case sg_Ruler_own_error => k_is)
    (case sk_Ruler_own_error => k_is)
    (case sy_Ruler_own_error => k_is)
    (case sx_Ruler_own_error => k_is)
    (case sa_Ruler_own_marks => k_is)
    (case sg_Ruler_own_marks => k_is)
    (case sk_Ruler_own_marks => k_is)
    (case sy_Ruler_own_marks => k_is)
    (case sx_Ruler_own_marks => k_is)
    (case nf_Ruler => k_is)
    (case g_Origin => k_is)
    (case pg_Origin => k_is)
    (case hd_Origin => k_is)
    (case po_Origin => k_is)
    (case sa_Origin => k_is)
    (case na_Origin_all_rulers => k_is)
    (case na_Origin_size => k_is)
    (case na_Origin_left => k_is)
    (case na_Origin_accepted => k_is)
    (case g_RackError => k_is)
    (case xt_RackError => k_is)
    (case xi_RackError => k_is)
    (case xb_RackError => k_is)
    (case g_InvalidRuler => k_is)
    (case xt_InvalidRuler => k_is)
    (case xi_InvalidRuler => k_is)
    (case xb_InvalidRuler => k_is)
    (case g_InvalidNumber => k_is)
    (case xt_InvalidNumber => k_is)
    (case xi_InvalidNumber => k_is)
    (case xb_InvalidNumber => k_is)
    (case g_InvalidPiece => k_is)
    (case xt_InvalidPiece => k_is)
    (case xi_InvalidPiece => k_is)
    (case xb_InvalidPiece => k_is)
    (case g_NoPlace => k_is)
    (case xt_NoPlace => k_is)
    (case xi_NoPlace => k_is)
    (case xb_NoPlace => k_is)
    (case xk_InvalidRuler => k_is)
    (case wq_InvalidRuler => kx_is)
    (case ws_InvalidRuler => k_is)
    (case nf_InvalidRuler_part => k_is)
    (case nf_InvalidRuler_index => k_is)
    (case wi_InvalidRuler => k_is)
    (case wt_InvalidRuler => k_is)
    (case wu_InvalidRuler => ks_is)
    (case wm_InvalidRuler => k_is)
    (case w_any => k_is)
    (case wl_InvalidRuler => k_is)
    (case wc_InvalidRuler => k_is)
    (case wd_InvalidRuler => k_is)
    (case we_InvalidRuler => first | rfl | decide +kernel)
    (case wf_InvalidRuler => first | rfl | decide +kernel)
    (case w_top => first | rfl | decide +kernel)
    (case wz_InvalidRuler => k_is)
    (case z_super => k_is)
    (case xg_InvalidRuler => k_is)
    (case xa_InvalidRuler => k_is)
    (case xd_InvalidRuler => k_is)
    (case xl_InvalidRuler => k_is)
    (case xn_InvalidRuler => k_is)
    (case xo_InvalidRuler => k_is)
    (case xr_InvalidRuler => k_is)
    (case xv_InvalidRuler => k_is)
    (case xe_InvalidRuler => k_is)
    (case xd_RackError => k_is)
    (case xk_InvalidNumber => k_is)
    (case xq_InvalidNumber => k_exc)
    (case xg_InvalidNumber => k_is)
    (case xa_InvalidNumber => k_is)
    (case xd_InvalidNumber => k_is)
    (case xl_InvalidNumber => k_is)
    (case xn_InvalidNumber => k_is)
    (case xo_InvalidNumber => k_is)
    (case xr_InvalidNumber => k_is)
    (case xv_InvalidNumber => k_is)
    (case xe_InvalidNumber => k_is)
    (case xk_InvalidPiece => k_is)
    (case wq_InvalidPiece => kx_is)
    (case ws_InvalidPiece => k_is)
    (case nf_InvalidPiece_index => k_is)
    (case wi_InvalidPiece => k_is)
    (case wt_InvalidPiece => k_is)
    (case wu_InvalidPiece => ks_is)
    (case wm_InvalidPiece => k_is)
    (case wl_InvalidPiece => k_is)
    (case wc_InvalidPiece => k_is)
    (case wd_InvalidPiece => k_is)
    (case we_InvalidPiece => first | rfl | decide +kernel)
    (case wf_InvalidPiece => first | rfl | decide +kernel)
    (case wz_InvalidPiece => k_is)
    (case xg_InvalidPiece => k_is)
    (case xa_InvalidPiece => k_is)
    (case xd_InvalidPiece => k_is)
    (case xl_InvalidPiece => k_is)
    (case xn_InvalidPiece => k_is)
    (case xo_InvalidPiece => k_is)
    (case xr_InvalidPiece => k_is)
    (case xv_InvalidPiece => k_is)
    (case xe_InvalidPiece => k_is)
    (case xk_NoPlace => k_is)
    (case xq_NoPlace => k_exc)
    (case xg_NoPlace => k_is)
    (case xa_NoPlace => k_is)
    (case xd_NoPlace => k_is)
    (case xl_NoPlace => k_is)
    (case xn_NoPlace => k_is)
    (case xo_NoPlace => k_is)
    (case xr_NoPlace => k_is)
    (case xv_NoPlace => k_is)
    (case xe_NoPlace => k_is)
    (case ne_6_8 => first | decide | rfl)
    (case sb_6_8 => k_is)
    (case ne_6_19 => first | decide | rfl)
    (case sb_6_19 => k_is)
    (case ne_8_6 => first | decide | rfl)
    (case sb_8_6 => k_is)
    (case ne_8_19 => first | decide | rfl)
    (case sb_8_19 => k_is)
    (case ne_1_6 => first | decide | rfl)
    (case sb_1_6 => k_is)
    (case ne_1_8 => first | decide | rfl)
    (case sb_1_8 => k_is)
    (case ne_1_19 => first | decide | rfl)
    (case sb_1_19 => k_is)
    (case ne_19_6 => first | decide | rfl)
    (case sb_19_6 => k_is)
    (case ne_19_8 => first | decide | rfl)
    (case sb_19_8 => k_is)
    (case zv_VE => k_is)
    (case a_law_alike => k_is)
    (case l_law_alike => k_is)
    (case c_law_alike => k_is)
    (case kp_law_alike => k_is)
    (case a_law_mix => k_is)
    (case l_law_mix => k_is)
    (case c_law_mix => k_is)
    (case kp_law_mix => k_is)
    (case a_law_next => k_is)
    (case l_law_next => k_is)
    (case c_law_next => k_is)
    (case kp_law_next => k_is)
    (case a_mirrored => k_is)
    (case l_mirrored => k_is)
    (case c_mirrored => k_is)
    (case kp_mirrored => k_is)
    (case a_is_number => k_is)
    (case l_is_number => k_is)
    (case c_is_number => k_is)
    (case kp_is_number => k_is)
    (case at_Ruler_init => k_is)
    (case fn_Ruler_init => k_is)
    (case l_Ruler_init => k_is)
    (case c_Ruler_init => k_is)
    (case kp_Ruler_init => k_is)
    (case mki_Ruler => k_is)
    (case kc_Ruler => k_is)
    (case at_Ruler_turned => k_is)
    (case fn_Ruler_turned => k_is)
    (case l_Ruler_turned => k_is)
    (case c_Ruler_turned => k_is)
    (case kp_Ruler_turned => k_is)
    (case a_law_fail => k_is)
    (case l_law_fail => k_is)
    (case c_law_fail => k_is)
    (case kp_law_fail => k_is)
    (case at_Ruler_marks => k_is)
    (case sp_Ruler_marks => k_is)
    (case tk_Ruler_marks => k_is)
    (case rc_Ruler_marks => k_is)
    (case l_Ruler_marks => k_is)
    (case c_Ruler_marks => k_is)
    (case kp_Ruler_marks => k_is)
    (case at_Origin_number_at => k_is)
    (case fn_Origin_number_at => k_is)
    (case l_Origin_number_at => k_is)
    (case c_Origin_number_at => k_is)
    (case kp_Origin_number_at => k_is)
    (case at_Origin_validate_index => k_is)
    (case fn_Origin_validate_index => k_is)
    (case l_Origin_validate_index => k_is)
    (case c_Origin_validate_index => k_is)
    (case kp_Origin_validate_index => k_is)
    (case at_Origin_tell => k_is)
    (case fn_Origin_tell => k_is)
    (case l_Origin_tell => k_is)
    (case c_Origin_tell => k_is)
    (case kp_Origin_tell => k_is)
    (case at_Origin_miss => k_is)
    (case fn_Origin_miss => k_is)
    (case l_Origin_miss => k_is)
    (case c_Origin_miss => k_is)
    (case kp_Origin_miss => k_is)
    (case at_Origin_numbers => k_is)
    (case fn_Origin_numbers => k_is)
    (case l_Origin_numbers => k_is)
    (case c_Origin_numbers => k_is)
    (case kp_Origin_numbers => k_is)
    (case at_Origin_see => k_is)
    (case fn_Origin_see => k_is)
    (case l_Origin_see => k_is)
    (case c_Origin_see => k_is)
    (case kp_Origin_see => k_is)
    (case at_Origin_telling => k_is)
    (case fn_Origin_telling => k_is)
    (case l_Origin_telling => k_is)
    (case c_Origin_telling => k_is)
    (case kp_Origin_telling => k_is)
    (case a_moved => k_is)
    (case l_moved => k_is)
    (case c_moved => k_is)
    (case kp_moved => k_is)
    (case at_Ruler_len => k_is)
    (case fn_Ruler_len => k_is)
    (case l_Ruler_len => k_is)
    (case c_Ruler_len => k_is)
    (case kp_Ruler_len => k_is)
    (case a_spots_on => k_is)
    (case l_spots_on => k_is)
    (case c_spots_on => k_is)
    (case kp_spots_on => k_is)
    (case a_validate_piece => k_is)
    (case l_validate_piece => k_is)
    (case c_validate_piece => k_is)
    (case kp_validate_piece => k_is)
    (case a_spots => k_is)
    (case l_spots => k_is)
    (case c_spots => k_is)
    (case kp_spots => k_is)
    (case at_Origin_init => k_is)
    (case fn_Origin_init => k_is)
    (case l_Origin_init => k_is)
    (case c_Origin_init => k_is)
    (case kp_Origin_init => k_is)
    (case mki_Origin => k_is)
    (case kc_Origin => k_is)
    (case at_Origin_candidates => k_is)
    (case sp_Origin_candidates => k_is)
    (case tk_Origin_candidates => k_is)
    (case rc_Origin_candidates => k_is)
    (case l_Origin_candidates => k_is)
    (case c_Origin_candidates => k_is)
    (case kp_Origin_candidates => k_is)
    (case at_Origin_seen => k_is)
    (case sp_Origin_seen => k_is)
    (case tk_Origin_seen => k_is)
    (case rc_Origin_seen => k_is)
    (case l_Origin_seen => k_is)
    (case c_Origin_seen => k_is)
    (case kp_Origin_seen => k_is)
    (case a_law => k_is)
    (case l_law => k_is)
    (case cc_law => k_is)
    (case kp_law => k_is)
    (case lc_law => k_is)
    (case v11_law => rfl)
    (case np_law => first | rfl | k_is)
    (case ch_law => first | rfl | k_is)
